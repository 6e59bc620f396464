/- The plain statement of FnContinuantsSplit, over numbers and lists: continuants are sums of their parts, the same backwards, split at each place, and fractions are quotients of them. -/
import Derived.Test.YtcfcnnnkpdhecaaGreatPFnContinuantsSplitx
set_option linter.unusedVariables false
set_option linter.unusedSimpArgs false
namespace Go.Proofs.YtcfcnnnkpdhecaaGreat.Pure
open Go.RowKit Go.Proofs.YtcfcnnnkpdhecaaGreat.PFnContinuantsSplit Go.Proofs.YtcfcnnnkpdhecaaGreatW.PrintWords Go.Proofs.YtcfcnnnkpdhecaaGreatW.PrintLast

theorem wrap_ex (a : Int) : ∃ c, wrap64 a = a + 18446744073709551616 * c := ⟨-((a + 9223372036854775808) / 18446744073709551616), by unfold wrap64; omega⟩
theorem wrap_more (x y : Int) : wrap64 (x + 18446744073709551616 * y) = wrap64 x := by unfold wrap64; omega
theorem wrap_mul (a b : Int) : wrap64 (wrap64 a * b) = wrap64 (a * b) := by
  obtain ⟨c, h⟩ := wrap_ex a
  rw [h, Int.add_mul, Int.mul_assoc, wrap_more]
theorem wrap_neg (a : Int) : wrap64 (-(wrap64 a)) = wrap64 (-a) := by
  obtain ⟨c, h⟩ := wrap_ex a
  rw [h, Int.neg_add, show -(18446744073709551616 * c) = 18446744073709551616 * (-c) by omega, wrap_more]

theorem w64 {x : Int} (h0 : -9223372036854775808 ≤ x) (h1 : x ≤ 9223372036854775807) : wrap64 x = x := by
  unfold wrap64
  omega
theorem wf_i64 {x : Int} (h : (Lit.int .i64 x).wf = true) : -9223372036854775808 ≤ x ∧ x ≤ 9223372036854775807 := by
  simp [Lit.wf, IntKind.min, IntKind.max, IntKind.signed, IntKind.bits] at h
  omega

theorem rd_nat {l : List Int} {i : Nat} (h : i < l.length) : rd l (i : Int) = l[i] := by
  unfold rd
  rw [Int.toNat_natCast, List.getD_eq_getElem?_getD, List.getElem?_eq_getElem h]
  rfl
theorem rd_drop {l : List Int} {i : Nat} (h : i < l.length) : l.drop i = rd l (i : Int) :: l.drop (i + 1) := by
  rw [rd_nat h, ← List.drop_eq_getElem_cons h]
theorem wsucc {i n : Nat} (h : i < n) (hn : n ≤ 9223372036854775807) : wrap64 ((i : Int) + 1) = ((i + 1 : Nat) : Int) := by
  rw [w64 (by omega) (by omega)]
  omega
theorem ite_t {α : Sort _} {a b : α} : (if true = true then a else b) = a := if_pos rfl
theorem ite_f {α : Sort _} {a b : α} : (if false = true then a else b) = b := if_neg (by decide)
theorem fuel {k d : Nat} (h : d < k) : ∃ m, k = m + 1 ∧ d ≤ m := ⟨k - 1, by omega, by omega⟩

def hasI (l : List Int) (x : Int) : Bool := l.any fun y => decide (y = x)
theorem indexI_l0 (l : List Int) (hl : l.length ≤ 1000) (x : Int) : ∀ (d k i : Nat), i + d = l.length → d < k → ∃ j : Int, slices_Index_int_int.l0 k l x (l.length : Int) (i : Int) = some j ∧ decide (j ≥ 0) = hasI (l.drop i) x := by
  intro d
  induction d with
  | zero =>
    intro k i hi hk
    obtain ⟨k, rfl, _⟩ := fuel hk
    simp only [slices_Index_int_int.l0]
    rw [if_neg (by omega), List.drop_of_length_le (by omega)]
    exact ⟨-1, rfl, rfl⟩
  | succ d ih =>
    intro k i hi hk
    obtain ⟨k, rfl, hk⟩ := fuel hk
    simp only [slices_Index_int_int.l0]
    rw [if_pos (by omega), if_pos (by omega), if_pos (by omega), wsucc (n := l.length) (by omega) (by omega), rd_drop (l := l) (i := i) (by omega)]
    unfold hasI
    rw [List.any_cons]
    by_cases h : x = rd l (i : Int)
    · rw [if_pos h, decide_eq_true h.symm, Bool.true_or]
      exact ⟨_, rfl, decide_eq_true (by omega)⟩
    · rw [if_neg h, decide_eq_false (fun e => h e.symm), Bool.false_or]
      exact ih k (i + 1) (by omega) (by omega)
theorem containsI_eq (l : List Int) (hl : l.length ≤ 1000) (x : Int) {k : Nat} (hk : l.length < k) : slices_Contains_int_int.f k l x = some (hasI l x) := by
  obtain ⟨j, h1, h2⟩ := indexI_l0 l hl x l.length k 0 (by omega) hk
  rw [Int.natCast_zero] at h1
  unfold slices_Contains_int_int.f slices_Index_int_int.f
  rw [h1, Option.bind_some, h2, List.drop_zero]
theorem l1In_eq (a b c : Int) : spec_l1In.f a b c = some (decide (b ≤ a ∧ a ≤ c)) := by
  unfold spec_l1In.f
  split <;> simp <;> omega

def inAll (lo hi : Int) (l : List Int) : Bool := l.all fun x => decide (lo ≤ x ∧ x ≤ hi)
theorem l1All_l0 (lo up : Int) (l : List Int) (hl : l.length ≤ 9223372036854775807) : ∀ (d k i : Nat), i + d = l.length → d < k → spec_l1All.l0 k lo up l (l.length : Int) (i : Int) = some (inAll lo up (l.drop i)) := by
  intro d
  induction d with
  | zero =>
    intro k i hi hk
    obtain ⟨k, rfl, _⟩ := fuel hk
    simp only [spec_l1All.l0]
    rw [if_neg (by omega), List.drop_of_length_le (by omega)]
    rfl
  | succ d ih =>
    intro k i hi hk
    obtain ⟨k, rfl, hk⟩ := fuel hk
    simp only [spec_l1All.l0]
    rw [if_pos (by omega), if_pos (by omega), if_pos (by omega), l1In_eq, Option.bind_some, wsucc (n := l.length) (by omega) hl, rd_drop (by omega)]
    by_cases hx : lo ≤ rd l i ∧ rd l i ≤ up
    · rw [decide_eq_true hx, ite_t, ih k (i + 1) (by omega) (by omega)]
      simp [inAll, hx]
    · rw [decide_eq_false hx, ite_f]
      simp [inAll]
      omega
theorem l1All_eq {l : List Int} {k : Nat} (lo hi : Int) (hl : l.length ≤ 9223372036854775807) (hk : l.length < k) : spec_l1All.f k l lo hi = some (inAll lo hi l) := by
  unfold spec_l1All.f
  exact l1All_l0 lo hi l hl l.length k 0 (by omega) hk

theorem within_eq (a b c : Int) : impl_within.f a b c = some (decide (b ≤ a ∧ a ≤ c)) := by
  unfold impl_within.f
  split <;> simp <;> omega

def isTerms (l : List Int) : Bool := decide ((l.length : Int) ≤ 10) && inAll (-30) 30 l
theorem ctGood_eq {l : List Int} {k : Nat} (hl : l.length ≤ 9223372036854775807) (hk : l.length < k) : spec_ctGood.f k l = some (isTerms l) := by
  unfold spec_ctGood.f isTerms
  by_cases h : (l.length : Int) ≤ 10
  · rw [if_pos h, l1All_eq _ _ hl hk]
    simp [h]
  · rw [if_neg h]
    simp [h]
theorem idx_terms (l : List Int) (hl : l.length ≤ 9223372036854775807) : ∀ (d k i : Nat), i + d = l.length → d < k → ∃ j : Int, slices_IndexFunc_int_int__at_impl_IsTermList_1.l0 k l (l.length : Int) (i : Int) = some j ∧ decide (j ≥ 0) = !(inAll (-30) 30 (l.drop i)) := by
  intro d
  induction d with
  | zero =>
    intro k i hi hk
    obtain ⟨k, rfl, _⟩ := fuel hk
    simp only [slices_IndexFunc_int_int__at_impl_IsTermList_1.l0]
    rw [if_neg (by omega), List.drop_of_length_le (by omega)]
    exact ⟨-1, rfl, rfl⟩
  | succ d ih =>
    intro k i hi hk
    obtain ⟨k, rfl, hk⟩ := fuel hk
    simp only [slices_IndexFunc_int_int__at_impl_IsTermList_1.l0]
    rw [if_pos (by omega), if_pos (by omega), if_pos (by omega), wsucc (n := l.length) (by omega) hl, rd_drop (by omega)]
    unfold impl_IsTermList_1.f
    rw [within_eq, Option.bind_some, Option.bind_some]
    by_cases hx : -30 ≤ rd l i ∧ rd l i ≤ 30
    · rw [decide_eq_true hx, Bool.not_true, ite_f]
      obtain ⟨j, hj, he⟩ := ih k (i + 1) (by omega) (by omega)
      refine ⟨j, hj, ?_⟩
      rw [he]
      simp [inAll, hx]
    · rw [decide_eq_false hx, Bool.not_false, ite_t]
      refine ⟨_, rfl, ?_⟩
      rw [decide_eq_true (by omega)]
      simp [inAll]
      omega
theorem IsTermList_eq {l : List Int} {k : Nat} (hl : l.length ≤ 9223372036854775807) (hk : l.length < k) : impl_IsTermList.f k l = some (isTerms l) := by
  unfold impl_IsTermList.f isTerms
  by_cases h : (l.length : Int) ≤ 10
  · rw [if_pos h]
    unfold slices_ContainsFunc_int_int__at_impl_IsTermList_1.f slices_IndexFunc_int_int__at_impl_IsTermList_1.f
    obtain ⟨j, hj, he⟩ := idx_terms l hl l.length k 0 (by omega) hk
    rw [Int.natCast_zero] at hj
    rw [hj, Option.bind_some, Option.bind_some, he]
    simp [h]
  · rw [if_neg h]
    simp [h]

def prodI : List Int → Int
  | [] => 1
  | a :: t => a * prodI t
/-- The parts of a continuant behind the first, times p: exact numbers. -/
def tlP : List Int → Int → List Int
  | a :: b :: t, p => (-p * prodI t :: tlP t (-p)) ++ tlP (b :: t) (p * a)
  | _, _ => []
def tmP (l : List Int) (p : Int) : List Int := p * prodI l :: tlP l p
theorem tlP_len : ∀ (l : List Int) (p : Int), (tlP l p).length + 1 ≤ 2 ^ l.length
  | [], _ => by simp [tlP]
  | [_], _ => by simp [tlP]
  | a :: b :: t, p => by
    have h1 := tlP_len t (-p)
    have h2 := tlP_len (b :: t) (p * a)
    rw [tlP, List.length_append, List.length_cons, List.length_cons, List.length_cons, Nat.pow_succ, Nat.pow_succ]
    rw [List.length_cons, Nat.pow_succ] at h2
    omega
theorem drop_two {l : List Int} {i : Nat} (h : i + 1 < l.length) : l.drop i = rd l (i : Int) :: rd l ((i + 1 : Nat) : Int) :: l.drop (i + 2) := by
  rw [rd_drop (l := l) (i := i) (by omega), rd_drop (l := l) (i := i + 1) (by omega)]
theorem tlP_short {l : List Int} {i : Nat} (h : l.length ≤ i + 1) (p : Int) : tlP (l.drop i) p = [] := by
  have hl : (l.drop i).length ≤ 1 := by rw [List.length_drop]; omega
  match l.drop i, hl with
  | [], _ => rfl
  | [_], _ => rfl
  | _ :: _ :: _, h => simp at h
theorem wrapAll (a b : List Int) : a.map wrap64 ++ b.map wrap64 = (a ++ b).map wrap64 := List.map_append.symm
theorem ctTerms_l0 (l : List Int) (hl : l.length ≤ 10) (from_ : Nat) (p0 : Int) (x2 : Int) : ∀ (d k i : Nat) (q : Int), i + d = (l.drop from_).length →
    spec_ctTerms.l0 (k + d + 1) l (from_ : Int) x2 (wrap64 q) (l.drop from_) ((l.drop from_).length : Int) (i : Int) = spec_ctTerms.l1 k l x2 [wrap64 (q * prodI ((l.drop from_).drop i))] (from_ : Int) := by
  have hb : (l.drop from_).length ≤ 10 := by rw [List.length_drop]; omega
  intro d
  induction d with
  | zero =>
    intro k i q hi
    simp only [spec_ctTerms.l0]
    rw [if_neg (by omega), List.drop_of_length_le (l := l.drop from_) (by omega), prodI, Int.mul_one]
  | succ d ih =>
    intro k i q hi
    obtain ⟨z, hz⟩ : ∃ z, z = k + d + 1 := ⟨_, rfl⟩
    rw [show k + (d + 1) + 1 = z + 1 by omega]
    simp only [spec_ctTerms.l0]
    rw [if_pos (by omega), if_pos (by omega), if_pos (by omega), wrap_mul, wsucc (n := (l.drop from_).length) (by omega) (by omega), hz, ih k (i + 1) _ (by omega), rd_drop (l := l.drop from_) (i := i) (by omega), prodI, Int.mul_assoc]
theorem ctTerms_l1 (l : List Int) (hl : l.length ≤ 10) : ∀ (m : Nat), (∀ (k i : Nat) (p : Int) (acc : List Int), i + m = l.length → 14 * m + 25 ≤ k → acc.length + (tlP (l.drop i) p).length ≤ 5000 →
      spec_ctTerms.l1 k l (wrap64 p) acc (i : Int) = some (acc ++ (tlP (l.drop i) p).map wrap64)) ∧
    (∀ (k i : Nat) (p : Int), i + m = l.length → 15 * m + 40 ≤ k → spec_ctTerms.f k l (i : Int) (wrap64 p) = some ((tmP (l.drop i) p).map wrap64)) := by
  intro m
  induction m using Nat.strongRecOn with
  | _ m ih =>
  have h1 : ∀ (k i : Nat) (p : Int) (acc : List Int), i + m = l.length → 14 * m + 25 ≤ k → acc.length + (tlP (l.drop i) p).length ≤ 5000 →
      spec_ctTerms.l1 k l (wrap64 p) acc (i : Int) = some (acc ++ (tlP (l.drop i) p).map wrap64) := by
    intro k i p acc hi hk ha
    obtain ⟨k, rfl⟩ : ∃ z, k = z + 1 := ⟨k - 1, by omega⟩
    simp only [spec_ctTerms.l1]
    rw [w64 (x := (i : Int) + 1) (by omega) (by omega)]
    by_cases h : i + 1 < l.length
    · have hd := drop_two h
      have hd1 : l.drop (i + 1) = rd l ((i + 1 : Nat) : Int) :: l.drop (i + 2) := rd_drop (by omega)
      have e : tlP (l.drop i) p = tmP (l.drop (i + 2)) (-p) ++ tlP (l.drop (i + 1)) (p * rd l (i : Int)) := by rw [hd, tlP, hd1]; rfl
      have hf := (ih (m - 2) (by omega)).2 k (i + 2) (-p) (by omega) (by omega)
      have hlen := tlP_len (l.drop (i + 2)) (-p)
      have hp2 : 2 ^ (l.drop (i + 2)).length ≤ 2 ^ 10 := Nat.pow_le_pow_right (by omega) (by rw [List.length_drop]; omega)
      rw [e, List.length_append] at ha
      rw [if_pos (by omega), w64 (x := (i : Int) + 2) (by omega) (by omega), show (i : Int) + 2 = ((i + 2 : Nat) : Int) by omega, wrap_neg, hf, Option.bind_some, if_pos (by rw [List.length_map]; omega), if_pos (by omega), if_pos (by omega), wrap_mul, show (i : Int) + 1 = ((i + 1 : Nat) : Int) by omega,
        (ih (m - 1) (by omega)).1 k (i + 1) (p * rd l (i : Int)) _ (by omega) (by omega) (by rw [List.length_append, List.length_map]; omega), e, List.append_assoc, wrapAll]
    · rw [if_neg (by omega), tlP_short (by omega), List.map_nil, List.append_nil]
  refine ⟨h1, fun k i p hi hk => ?_⟩
  obtain ⟨k, rfl⟩ : ∃ z, k = z + 1 := ⟨k - 1, by omega⟩
  have hd : (l.drop i).length = m := by rw [List.length_drop]; omega
  obtain ⟨z, hz⟩ : ∃ z, k = z + m + 1 := ⟨k - m - 1, by omega⟩
  have hlen := tlP_len (l.drop i) p
  have hp2 : 2 ^ (l.drop i).length ≤ 2 ^ 10 := Nat.pow_le_pow_right (by omega) (by omega)
  have h2 := ctTerms_l0 l hl i 0 (wrap64 p) m z 0 p (by omega)
  rw [Int.natCast_zero, ← hz, List.drop_zero] at h2
  simp only [spec_ctTerms.f]
  rw [if_pos (by omega), if_pos (by omega), Int.toNat_natCast, h2, h1 z i p _ hi (by omega) (by rw [List.length_singleton]; omega)]
  rfl
/-- Covered by a pair. -/
def covd (P : List Int) (i : Nat) : Bool := hasI P (i : Int) || hasI P ((i : Int) - 1)
def upTo (P l : List Int) : Nat → Int
  | 0 => 1
  | i + 1 => upTo P l i * (if covd P i = true then 1 else rd l (i : Int))
def sgP (P : List Int) : Int := if (P.length : Int) % 2 = 1 then -1 else 1
theorem hasI_app (P : List Int) (x y : Int) : hasI (P ++ [x]) y = (hasI P y || decide (x = y)) := by
  unfold hasI
  rw [List.any_append, List.any_cons, List.any_nil, Bool.or_false]
theorem hasI_no {P : List Int} {y : Int} (h : ∀ x ∈ P, x ≠ y) : hasI P y = false := by
  unfold hasI
  rw [List.any_eq_false]
  intro x hx e
  exact h x hx (of_decide_eq_true e)
theorem upTo_app (P l : List Int) (i : Nat) : ∀ j, j ≤ i → upTo (P ++ [(i : Int)]) l j = upTo P l j
  | 0, _ => rfl
  | j + 1, h => by
    rw [upTo, upTo, upTo_app P l i j (by omega)]
    unfold covd
    rw [hasI_app, hasI_app, decide_eq_false (show ¬ ((i : Int) = (j : Int)) by omega), decide_eq_false (show ¬ ((i : Int) = (j : Int) - 1) by omega), Bool.or_false, Bool.or_false]
theorem upTo_two (P l : List Int) (i : Nat) : upTo (P ++ [(i : Int)]) l (i + 2) = upTo P l i := by
  have h1 : covd (P ++ [(i : Int)]) i = true := by unfold covd; rw [hasI_app, decide_eq_true rfl]; simp
  have h2 : covd (P ++ [(i : Int)]) (i + 1) = true := by unfold covd; rw [hasI_app, hasI_app, decide_eq_true (show (i : Int) = ((i + 1 : Nat) : Int) - 1 by omega)]; simp
  rw [upTo, upTo, h1, h2, if_pos rfl, if_pos rfl, Int.mul_one, Int.mul_one, upTo_app P l i i (Nat.le_refl _)]
theorem covd_no {P : List Int} {i : Nat} (h : ∀ x ∈ P, x + 2 ≤ (i : Int)) {j : Nat} (hj : i ≤ j) : covd P j = false := by
  unfold covd
  rw [hasI_no (fun x hx => by have := h x hx; omega), hasI_no (fun x hx => by have := h x hx; omega)]
  rfl
theorem upTo_end {P l : List Int} {i : Nat} (h : ∀ x ∈ P, x + 2 ≤ (i : Int)) : ∀ (d j : Nat), i ≤ j → j + d = l.length → upTo P l l.length = upTo P l j * prodI (l.drop j)
  | 0, j, _, hj => by rw [List.drop_of_length_le (by omega), prodI, Int.mul_one, show j = l.length by omega]
  | d + 1, j, hij, hj => by
    rw [upTo_end h d (j + 1) (by omega) (by omega), upTo, covd_no h hij, if_neg (by decide), rd_drop (l := l) (i := j) (by omega), prodI, Int.mul_assoc]
theorem sgP_app (P : List Int) (x : Int) : sgP (P ++ [x]) = -sgP P := by
  unfold sgP
  rw [List.length_append, List.length_singleton]
  split <;> split <;> omega
theorem parts_l0 (l P : List Int) (hl : l.length ≤ 10) (hP : P.length ≤ 20) (a2 : Int) : ∀ (d k i : Nat), i + d = l.length → 30 ≤ k →
    impl_parts.l0 (k + d + 1) l P a2 (wrap64 (upTo P l i)) l (l.length : Int) (i : Int) = impl_parts.j1 k l P a2 (wrap64 (sgP P * upTo P l l.length)) := by
  intro d
  induction d with
  | zero =>
    intro k i hi hk
    simp only [impl_parts.l0]
    rw [if_neg (by omega), show i = l.length by omega]
    unfold sgP
    by_cases h : (P.length : Int) % 2 = 1
    · rw [if_pos h, if_pos h, wrap_neg, Int.neg_mul, Int.one_mul]
    · rw [if_neg h, if_neg h, Int.one_mul]
  | succ d ih =>
    intro k i hi hk
    obtain ⟨z, hz⟩ : ∃ z, z = k + d + 1 := ⟨_, rfl⟩
    have hi2 := ih k (i + 1) (by omega) hk
    rw [← hz, upTo] at hi2
    unfold covd at hi2
    rw [show k + (d + 1) + 1 = z + 1 by omega]
    simp only [impl_parts.l0]
    rw [if_pos (by omega), if_pos (by omega), if_pos (by omega), containsI_eq P (by omega) _ (by omega), Option.bind_some, w64 (x := (i : Int) - 1) (by omega) (by omega), containsI_eq P (by omega) _ (by omega), Option.bind_some, wsucc (n := l.length) (by omega) (by omega), wrap_mul]
    cases h1 : hasI P (i : Int) with
    | true =>
      rw [h1, Bool.true_or, if_pos rfl, Int.mul_one] at hi2
      rw [if_pos rfl]
      exact hi2
    | false =>
      rw [h1, Bool.false_or] at hi2
      rw [if_neg (by decide)]
      cases h2 : hasI P ((i : Int) - 1) with
      | true =>
        rw [h2, if_pos rfl, Int.mul_one] at hi2
        rw [if_pos rfl]
        exact hi2
      | false =>
        rw [h2, if_neg (by decide)] at hi2
        rw [if_neg (by decide)]
        exact hi2
theorem parts_l1 (l : List Int) (hl : l.length ≤ 10) : ∀ (m : Nat), (∀ (k i : Nat) (P acc : List Int), i + m = l.length → 15 * m + 100 ≤ k → (∀ x ∈ P, x + 2 ≤ (i : Int)) → P.length ≤ i → acc.length + (tlP (l.drop i) (sgP P * upTo P l i)).length ≤ 5000 →
      impl_parts.l1 k l P acc (i : Int) = some (acc ++ (tlP (l.drop i) (sgP P * upTo P l i)).map wrap64)) ∧
    (∀ (k i : Nat) (P : List Int), i + m = l.length → 15 * m + 120 ≤ k → (∀ x ∈ P, x + 2 ≤ (i : Int)) → P.length ≤ i → impl_parts.f k l P (i : Int) = some ((tmP (l.drop i) (sgP P * upTo P l i)).map wrap64)) := by
  intro m
  induction m using Nat.strongRecOn with
  | _ m ih =>
  have h1 : ∀ (k i : Nat) (P acc : List Int), i + m = l.length → 15 * m + 100 ≤ k → (∀ x ∈ P, x + 2 ≤ (i : Int)) → P.length ≤ i → acc.length + (tlP (l.drop i) (sgP P * upTo P l i)).length ≤ 5000 →
      impl_parts.l1 k l P acc (i : Int) = some (acc ++ (tlP (l.drop i) (sgP P * upTo P l i)).map wrap64) := by
    intro k i P acc hi hk hP hPl ha
    obtain ⟨k, rfl⟩ : ∃ z, k = z + 1 := ⟨k - 1, by omega⟩
    simp only [impl_parts.l1]
    rw [w64 (x := (i : Int) + 1) (by omega) (by omega)]
    by_cases h : i + 1 < l.length
    · have hd := drop_two h
      have hd1 : l.drop (i + 1) = rd l ((i + 1 : Nat) : Int) :: l.drop (i + 2) := rd_drop (by omega)
      have e1 : sgP (P ++ [(i : Int)]) * upTo (P ++ [(i : Int)]) l (i + 2) = -(sgP P * upTo P l i) := by rw [sgP_app, upTo_two, Int.neg_mul]
      have e2 : sgP P * upTo P l (i + 1) = sgP P * upTo P l i * rd l (i : Int) := by rw [upTo, covd_no hP (Nat.le_refl _), if_neg (by decide), Int.mul_assoc]
      have e : tlP (l.drop i) (sgP P * upTo P l i) = tmP (l.drop (i + 2)) (-(sgP P * upTo P l i)) ++ tlP (l.drop (i + 1)) (sgP P * upTo P l i * rd l (i : Int)) := by rw [hd, tlP, hd1]; rfl
      have hf := (ih (m - 2) (by omega)).2 k (i + 2) (P ++ [(i : Int)]) (by omega) (by omega) (by
        intro x hx
        rcases List.mem_append.1 hx with hx | hx
        · have := hP x hx; omega
        · rw [List.mem_singleton] at hx; omega) (by rw [List.length_append, List.length_singleton]; omega)
      rw [e1] at hf
      have hlen := tlP_len (l.drop (i + 2)) (-(sgP P * upTo P l i))
      have hp2 : 2 ^ (l.drop (i + 2)).length ≤ 2 ^ 10 := Nat.pow_le_pow_right (by omega) (by rw [List.length_drop]; omega)
      rw [e, List.length_append] at ha
      have hn := (ih (m - 1) (by omega)).1 k (i + 1) P (acc ++ (tmP (l.drop (i + 2)) (-(sgP P * upTo P l i))).map wrap64) (by omega) (by omega) (fun x hx => by have := hP x hx; omega) (by omega) (by rw [List.length_append, List.length_map, e2]; omega)
      rw [e2] at hn
      have ho : impl_parts_at_own.f P = some P := rfl
      rw [if_pos (by omega), ho, Option.bind_some, if_pos (show P.length < 17592186044416 by omega), w64 (x := (i : Int) + 2) (by omega) (by omega), show (i : Int) + 2 = ((i + 2 : Nat) : Int) by omega, hf, Option.bind_some, if_pos (by rw [List.length_map]; omega), show (i : Int) + 1 = ((i + 1 : Nat) : Int) by omega, hn, e, List.append_assoc, wrapAll]
    · rw [if_neg (by omega), tlP_short (by omega), List.map_nil, List.append_nil]
  refine ⟨h1, fun k i P hi hk hP hPl => ?_⟩
  obtain ⟨k, rfl⟩ : ∃ z, k = z + 1 := ⟨k - 1, by omega⟩
  obtain ⟨z, hz⟩ : ∃ z, k = (z + 1) + l.length + 1 := ⟨k - l.length - 2, by omega⟩
  have hlen := tlP_len (l.drop i) (sgP P * upTo P l i)
  have hp2 : 2 ^ (l.drop i).length ≤ 2 ^ 10 := Nat.pow_le_pow_right (by omega) (by rw [List.length_drop]; omega)
  have h2 := parts_l0 l P hl (by omega) (i : Int) l.length (z + 1) 0 (by omega) (by omega)
  rw [Int.natCast_zero, ← hz, upTo, w64 (x := 1) (by omega) (by omega)] at h2
  simp only [impl_parts.f]
  rw [h2]
  simp only [impl_parts.j1]
  rw [h1 z i P _ hi (by omega) hP hPl (by rw [List.length_singleton]; omega), upTo_end hP (l.length - i) i (Nat.le_refl _) (by omega), ← Int.mul_assoc]
  rfl
/-- The parts of the continuant of terms. -/
def partsOf (l : List Int) : List Int × Bool := if isTerms l = true then ((tmP l 1).map wrap64, true) else ([], false)
theorem isTerms_le {l : List Int} (h : isTerms l = true) : l.length ≤ 10 := by
  unfold isTerms at h
  rw [Bool.and_eq_true, decide_eq_true_iff] at h
  omega
theorem partsOf_len (l : List Int) : (partsOf l).1.length ≤ 1024 := by
  unfold partsOf
  split
  · rename_i h
    have h1 := isTerms_le h
    have h2 := tlP_len l 1
    have hp2 : 2 ^ l.length ≤ 2 ^ 10 := Nat.pow_le_pow_right (by omega) h1
    show ((tmP l 1).map wrap64).length ≤ 1024
    rw [List.length_map]
    show (tlP l 1).length + 1 ≤ 1024
    omega
  · simp
theorem spec_terms {l : List Int} (hl : l.length ≤ 1048576) {k : Nat} (hk : l.length + 400 ≤ k) : spec_TermsOf.f k l = some (partsOf l) := by
  unfold spec_TermsOf.f partsOf
  rw [ctGood_eq (by omega) (by omega), Option.bind_some]
  cases h : isTerms l with
  | false => rfl
  | true =>
    have h1 := isTerms_le h
    have h2 := (ctTerms_l1 l h1 l.length).2 k 0 1 (by omega) (by omega)
    rw [Int.natCast_zero, w64 (x := 1) (by omega) (by omega), List.drop_zero] at h2
    rw [if_pos rfl, if_pos rfl, h2]
    rfl
theorem impl_terms {l : List Int} (hl : l.length ≤ 1048576) {k : Nat} (hk : l.length + 400 ≤ k) : impl_TermsOf.f k l = some (partsOf l) := by
  unfold impl_TermsOf.f partsOf
  rw [IsTermList_eq (by omega) (by omega), Option.bind_some]
  cases h : isTerms l with
  | false => rfl
  | true =>
    have h1 := isTerms_le h
    have h2 := (parts_l1 l h1 l.length).2 k 0 [] (by omega) (by omega) (fun x hx => absurd hx List.not_mem_nil) (by simp)
    rw [Int.natCast_zero, List.drop_zero] at h2
    rw [if_pos rfl, if_pos rfl, h2]
    rfl

def contStep (s : Int) (p : Int × Int) (x : Int) : Int × Int := (p.2, wrap64 (wrap64 (x * p.2) + wrap64 (s * p.1)))
def contOf (s : Int) (l : List Int) : Int := (l.foldl (contStep s) (0, 1)).2
theorem ctValue_l0 (s : Int) (l : List Int) (hl : l.length ≤ 9223372036854775807) : ∀ (d k i : Nat) (p q : Int), i + d = l.length → d < k →
    spec_ctValue.l0 k s p q l (l.length : Int) (i : Int) = some ((l.drop i).foldl (contStep s) (p, q)).2 := by
  intro d
  induction d with
  | zero =>
    intro k i p q hi hk
    obtain ⟨k, rfl, _⟩ := fuel hk
    simp only [spec_ctValue.l0]
    rw [if_neg (by omega), List.drop_of_length_le (by omega)]
    rfl
  | succ d ih =>
    intro k i p q hi hk
    obtain ⟨k, rfl, hk⟩ := fuel hk
    simp only [spec_ctValue.l0]
    rw [if_pos (by omega), if_pos (by omega), if_pos (by omega), wsucc (n := l.length) (by omega) hl, ih k (i + 1) _ _ (by omega) (by omega), rd_drop (l := l) (i := i) (by omega)]
    rfl
theorem ctValue_eq {l : List Int} {k : Nat} (s : Int) (hl : l.length ≤ 9223372036854775807) (hk : l.length < k) : spec_ctValue.f k l s = some (contOf s l) := by
  unfold spec_ctValue.f
  exact ctValue_l0 s l hl l.length k 0 0 1 (by omega) hk
theorem continuant_l0 (s : Int) (l : List Int) : ∀ (k : Nat) (p q i : Int), impl_continuant.l0 k s p q l (l.length : Int) i = spec_ctValue.l0 k s p q l (l.length : Int) i := by
  intro k
  induction k with
  | zero => intro p q i; rfl
  | succ k ih =>
    intro p q i
    simp only [impl_continuant.l0, spec_ctValue.l0, ih]
theorem continuant_eq {l : List Int} {k : Nat} (s : Int) (hl : l.length ≤ 9223372036854775807) (hk : l.length < k) : impl_continuant.f k l s = some (contOf s l) := by
  rw [← ctValue_eq s hl hk]
  unfold spec_ctValue.f impl_continuant.f
  exact continuant_l0 s l k 0 1 0

def nthL (l : List (List Int)) (i : Nat) : List Int := l.getD i []
theorem rdL_nth (l : List (List Int)) (i : Nat) : rd_L2 l (i : Int) = nthL l i := rfl
theorem nthL_get {l : List (List Int)} {i : Nat} (h : i < l.length) : nthL l i = l[i] := by
  unfold nthL
  rw [List.getD_eq_getElem?_getD, List.getElem?_eq_getElem h]
  rfl
theorem rdL_drop {l : List (List Int)} {i : Nat} (h : i < l.length) : l.drop i = nthL l i :: l.drop (i + 1) := by
  rw [nthL_get h, ← List.drop_eq_getElem_cons h]
theorem nthL_mem {l : List (List Int)} {i : Nat} (h : i < l.length) : nthL l i ∈ l := by
  rw [nthL_get h]
  exact List.getElem_mem h
def sumLen : List (List Int) → Nat
  | [] => 0
  | y :: l => y.length + sumLen l
theorem sumLen_mem {l : List (List Int)} {y : List Int} (h : y ∈ l) : y.length ≤ sumLen l := by
  induction l with
  | nil => exact absurd h List.not_mem_nil
  | cons z l ih =>
    rw [sumLen]
    rcases List.mem_cons.1 h with rfl | h
    · omega
    · have := ih h
      omega
/-- The continuants of the terms from i on, the first m of them. -/
def tabRow (l : List Int) (i : Nat) : Nat → List Int
  | 0 => []
  | m + 1 => tabRow l i m ++ [contOf (-1) ((l.take (i + m + 1)).drop i)]
theorem tabRow_length (l : List Int) (i : Nat) : ∀ m, (tabRow l i m).length = m
  | 0 => rfl
  | m + 1 => by rw [tabRow, List.length_append, tabRow_length l i m]; rfl
def tabL (l : List Int) : Nat → List (List Int)
  | 0 => []
  | m + 1 => tabL l m ++ [tabRow l m (l.length - m)]
theorem tabL_length (l : List Int) : ∀ m, (tabL l m).length = m
  | 0 => rfl
  | m + 1 => by rw [tabL, List.length_append, tabL_length l m]; rfl
theorem sumLen_app (a b : List (List Int)) : sumLen (a ++ b) = sumLen a + sumLen b := by
  induction a with
  | nil => simp [sumLen]
  | cons x a ih => rw [List.cons_append, sumLen, sumLen, ih]; omega
theorem tabL_sum (l : List Int) : ∀ m, sumLen (tabL l m) ≤ m * l.length
  | 0 => by simp [tabL, sumLen]
  | m + 1 => by
    have := tabL_sum l m
    rw [tabL, sumLen_app, sumLen, sumLen, tabRow_length, Nat.succ_mul]
    omega
theorem tab_l1 (l : List Int) (hl : l.length ≤ 10) (X : List (List Int)) (hX : X.length ≤ 20) (i : Nat) (hi : i < l.length) (y z : Int) : ∀ (d k m : Nat), i + m + d = l.length → 20 ≤ k →
    spec_ContinuantTable.l1 (k + d + 1) l X (i : Int) (tabRow l i m) ((i + m + 1 : Nat) : Int) y z = spec_ContinuantTable.l0 k l (X ++ [tabRow l i (l.length - i)]) y (wrap64 (z + 1)) := by
  intro d
  induction d with
  | zero =>
    intro k m hm hk
    simp only [spec_ContinuantTable.l1]
    rw [if_neg (by omega), if_pos (by omega), show l.length - i = m by omega]
  | succ d ih =>
    intro k m hm hk
    obtain ⟨q, hq⟩ : ∃ q, q = k + d + 1 := ⟨_, rfl⟩
    have hr := tabRow_length l i m
    have hc : spec_ctValue.f q (List.drop i (List.take (i + m + 1) l)) (-1) = some (contOf (-1) ((l.take (i + m + 1)).drop i)) := ctValue_eq (-1) (by rw [List.length_drop, List.length_take]; omega) (by rw [List.length_drop, List.length_take]; omega)
    rw [show k + (d + 1) + 1 = q + 1 by omega]
    simp only [spec_ContinuantTable.l1]
    rw [if_pos (by omega), if_pos (by omega), if_pos (by omega), Int.toNat_natCast, Int.toNat_natCast, hc, Option.bind_some, if_pos (by omega), w64 (x := ((i + m + 1 : Nat) : Int) + 1) (by omega) (by omega), show ((i + m + 1 : Nat) : Int) + 1 = ((i + (m + 1) + 1 : Nat) : Int) by omega, hq]
    exact ih k (m + 1) (by omega) hk
theorem tab_l0 (l : List Int) (hl : l.length ≤ 10) : ∀ (d k i : Nat), i + d = l.length → 30 * d + 30 ≤ k →
    spec_ContinuantTable.l0 k l (tabL l i) (l.length : Int) (i : Int) = some (tabL l l.length, true) := by
  intro d
  induction d with
  | zero =>
    intro k i hi hk
    obtain ⟨k, rfl⟩ : ∃ m, k = m + 1 := ⟨k - 1, by omega⟩
    simp only [spec_ContinuantTable.l0]
    rw [if_neg (by omega), show i = l.length by omega]
  | succ d ih =>
    intro k i hi hk
    obtain ⟨k, rfl⟩ : ∃ m, k = m + 1 := ⟨k - 1, by omega⟩
    obtain ⟨m, hm⟩ : ∃ m, k = m + (l.length - i) + 1 := ⟨k - (l.length - i) - 1, by omega⟩
    have hx := tabL_length l i
    have h := tab_l1 l hl (tabL l i) (by omega) i (by omega) (l.length : Int) (i : Int) (l.length - i) m 0 (by omega) (by omega)
    simp only [spec_ContinuantTable.l0]
    rw [if_pos (by omega), w64 (x := (i : Int) + 1) (by omega) (by omega), hm]
    refine h.trans ?_
    rw [w64 (by omega) (by omega)]
    exact ih m (i + 1) (by omega) (by omega)
theorem tab_same (l : List Int) : ∀ k, (∀ X y z, impl_ContinuantTable.l0 k l X y z = spec_ContinuantTable.l0 k l X y z) ∧ (∀ X a b c y z, impl_ContinuantTable.l1 k l X a b c y z = spec_ContinuantTable.l1 k l X a b c y z) := by
  intro k
  induction k with
  | zero => exact ⟨fun _ _ _ => rfl, fun _ _ _ _ _ _ => rfl⟩
  | succ k ih =>
    have hc : ∀ x, impl_continuant.f k x (-1) = spec_ctValue.f k x (-1) := by
      intro x
      unfold impl_continuant.f spec_ctValue.f
      exact continuant_l0 (-1) x k 0 1 0
    refine ⟨fun X y z => ?_, fun X a b c y z => ?_⟩
    · simp only [impl_ContinuantTable.l0, spec_ContinuantTable.l0, ih.2]
    · simp only [impl_ContinuantTable.l1, spec_ContinuantTable.l1, hc, ih.1, ih.2]
/-- What both tell of a list. -/
def tabOf (l : List Int) : List (List Int) × Bool := if isTerms l = true then (tabL l l.length, true) else ([], false)
theorem isTerms_len {l : List Int} (h : isTerms l = true) : l.length ≤ 10 := by
  unfold isTerms at h
  rw [Bool.and_eq_true, decide_eq_true_iff] at h
  omega
theorem tabOf_size (l : List Int) : (tabOf l).1.length ≤ 10 ∧ sumLen (tabOf l).1 ≤ 100 := by
  unfold tabOf
  split
  · rename_i h
    have h1 := isTerms_len h
    have h2 := tabL_sum l l.length
    have h3 := Nat.mul_le_mul h1 h1
    exact ⟨by show (tabL l l.length).length ≤ 10; rw [tabL_length]; exact h1, by show sumLen (tabL l l.length) ≤ 100; omega⟩
  · exact ⟨by simp, by simp [sumLen]⟩
theorem spec_tab {l : List Int} (hl : l.length ≤ 1048576) {k : Nat} (hk : l.length + 400 ≤ k) : spec_ContinuantTable.f k l = some (tabOf l) := by
  unfold spec_ContinuantTable.f tabOf
  rw [ctGood_eq (by omega) (by omega), Option.bind_some]
  cases h : isTerms l with
  | false => rfl
  | true =>
    have h1 := isTerms_len h
    rw [if_pos rfl, if_pos rfl]
    exact tab_l0 l h1 l.length k 0 (by omega) (by omega)
theorem impl_tab {l : List Int} (hl : l.length ≤ 1048576) {k : Nat} (hk : l.length + 400 ≤ k) : impl_ContinuantTable.f k l = some (tabOf l) := by
  rw [← spec_tab hl hk]
  unfold spec_ContinuantTable.f impl_ContinuantTable.f
  rw [ctGood_eq (by omega) (by omega), IsTermList_eq (by omega) (by omega), Option.bind_some, Option.bind_some, (tab_same l k).1]

theorem Min_l0 (l : List Int) (hl : l.length ≤ 9223372036854775807) : ∀ (d k i : Nat) (m : Int), i + d = l.length → d < k → (∃ j, j < i ∧ l[j]? = some m) → (∀ j x, j < i → l[j]? = some x → m ≤ x) →
    ∃ r, slices_Min_int_int.l0 k l m (i : Int) = some r ∧ r ∈ l ∧ ∀ x ∈ l, r ≤ x := by
  intro d
  induction d with
  | zero =>
    intro k i m hi hk ⟨j, hj, hm⟩ ha
    obtain ⟨k, rfl, _⟩ := fuel hk
    simp only [slices_Min_int_int.l0]
    rw [if_neg (by omega)]
    refine ⟨m, rfl, List.mem_of_getElem? hm, fun x hx => ?_⟩
    obtain ⟨q, hq⟩ := List.mem_iff_getElem?.1 hx
    have := (List.getElem?_eq_some_iff.1 hq).1
    exact ha q x (by omega) hq
  | succ d ih =>
    intro k i m hi hk ⟨j, hj, hm⟩ ha
    obtain ⟨k, rfl, hk⟩ := fuel hk
    simp only [slices_Min_int_int.l0]
    rw [if_pos (by omega), if_pos (by omega), wsucc (n := l.length) (by omega) hl, rd_nat (by omega)]
    have hget : l[i]? = some l[i] := List.getElem?_eq_getElem (by omega)
    refine ih k (i + 1) _ (by omega) (by omega) ?_ ?_
    · unfold mn
      split
      · exact ⟨i, by omega, hget⟩
      · exact ⟨j, by omega, hm⟩
    · intro q x hq hx
      unfold mn
      by_cases e : q = i
      · subst e
        rw [hget] at hx
        obtain rfl := Option.some.inj hx
        split <;> omega
      · have := ha q x (by omega) hx
        split <;> omega
theorem Min_eq {l : List Int} {k : Nat} (h0 : 0 < l.length) (hl : l.length ≤ 9223372036854775807) (hk : l.length < k) : ∃ r, slices_Min_int_int.f k l = some r ∧ r ∈ l ∧ ∀ x ∈ l, r ≤ x := by
  unfold slices_Min_int_int.f
  rw [if_neg (by omega), if_pos (by omega)]
  have e0 : rd l 0 = l[0] := rd_nat (i := 0) h0
  rw [e0]
  have hget : l[0]? = some l[0] := List.getElem?_eq_getElem h0
  exact Min_l0 l hl (l.length - 1) k 1 l[0] (by omega) (by omega) ⟨0, by omega, hget⟩ (fun j x hj hx => by
    obtain rfl : j = 0 := by omega
    rw [hget] at hx
    obtain rfl := Option.some.inj hx
    omega)

theorem terms_mem {l : List Int} (h : isTerms l = true) : l.length ≤ 10 ∧ ∀ x ∈ l, -30 ≤ x ∧ x ≤ 30 := by
  unfold isTerms inAll at h
  simp only [Bool.and_eq_true, decide_eq_true_eq, List.all_eq_true] at h
  exact ⟨by omega, h.2⟩
theorem small_mul {a p : Int} {B : Nat} (ha : -30 ≤ a ∧ a ≤ 30) (hp : p.natAbs ≤ B) : (a * p).natAbs ≤ 30 * B := by
  rw [Int.natAbs_mul]
  exact Nat.mul_le_mul (by omega) hp
theorem fraction_l0 (l : List Int) (s : Int) (hs : s = 1 ∨ s = -1) (hl : ∀ x ∈ l, -30 ≤ x ∧ x ≤ 30) (hn : l.length ≤ 10) : ∀ (d k : Nat) (p q P Q : Int) (B : Nat), d ≤ l.length → d < k → p.natAbs ≤ B → q.natAbs ≤ B → 1 ≤ q → B * 31 ^ d ≤ 1000000000000000 →
    ((P = p ∧ Q = q) ∨ (P = -p ∧ Q = -q)) → ∃ r, impl_fraction.l0 k l s P Q ((d : Int) - 1) = some r ∧ spec_ctFraction.l0 k l s p q ((d : Int) - 1) = some r := by
  intro d
  induction d with
  | zero =>
    intro k p q P Q B hd hk hp hq h1 hB hPQ
    obtain ⟨k, rfl, _⟩ := fuel hk
    simp only [impl_fraction.l0, spec_ctFraction.l0]
    rw [Nat.pow_zero, Nat.mul_one] at hB
    simp only [if_neg (show ¬ (((0 : Nat) : Int) - 1 ≥ 0) by omega)]
    refine ⟨_, ?_, rfl⟩
    rcases hPQ with ⟨rfl, rfl⟩ | ⟨rfl, rfl⟩
    · rw [if_neg (by omega)]
    · rw [if_pos (by omega), Int.neg_neg, Int.neg_neg, w64 (by omega) (by omega), w64 (by omega) (by omega)]
  | succ d ih =>
    intro k p q P Q B hd hk hp hq h1 hB hPQ
    obtain ⟨k, rfl, hk⟩ := fuel hk
    have hB1 : B * 31 * 31 ^ d ≤ 1000000000000000 := by rw [Nat.mul_assoc, ← Nat.pow_succ']; exact hB
    have hB0 : B * 31 ≤ 1000000000000000 := Nat.le_trans (Nat.le_mul_of_pos_right _ (Nat.pos_of_ne_zero (by simp))) hB1
    have ei : (((d + 1 : Nat) : Int) - 1) = (d : Int) := by omega
    rw [ei]
    simp only [impl_fraction.l0, spec_ctFraction.l0]
    simp only [if_pos (show (d : Int) ≥ 0 by omega), if_pos (show (0 : Int) ≤ d by omega), if_pos (show (d : Int) < l.length by omega)]
    by_cases hz : p = 0
    · rw [if_pos hz, if_pos (show P = 0 by omega)]
      exact ⟨_, rfl, rfl⟩
    · rw [if_neg hz, if_neg (show ¬ P = 0 by omega), w64 (x := (d : Int) - 1) (by omega) (by omega), rd_nat (by omega)]
      have ha := hl l[d] (List.getElem_mem (by omega))
      generalize l[d] = a at ha
      have h2 := small_mul ha hp
      have h3 : (s * q).natAbs ≤ B := by rcases hs with rfl | rfl <;> simp <;> omega
      have e1 : wrap64 (wrap64 (a * p) + wrap64 (s * q)) = a * p + s * q := by
        rw [w64 (x := a * p) (by omega) (by omega), w64 (x := s * q) (by omega) (by omega), w64 (by omega) (by omega)]
      have e2 : wrap64 (wrap64 (a * -p) + wrap64 (s * -q)) = -(a * p + s * q) := by
        rw [Int.mul_neg, Int.mul_neg, w64 (x := -(a * p)) (by omega) (by omega), w64 (x := -(s * q)) (by omega) (by omega), w64 (by omega) (by omega)]
        omega
      rw [e1]
      have hn1 : (a * p + s * q).natAbs ≤ B * 31 := by omega
      by_cases hneg : p < 0
      · rw [if_pos hneg, w64 (x := -(a * p + s * q)) (by omega) (by omega), w64 (x := -p) (by omega) (by omega)]
        rcases hPQ with ⟨rfl, rfl⟩ | ⟨rfl, rfl⟩
        · rw [e1]
          refine ih k _ _ _ _ (B * 31) (by omega) (by omega) ?_ ?_ ?_ hB1 (.inr ⟨?_, ?_⟩) <;> omega
        · rw [e2]
          refine ih k _ _ _ _ (B * 31) (by omega) (by omega) ?_ ?_ ?_ hB1 (.inl ⟨rfl, rfl⟩) <;> omega
      · rw [if_neg hneg]
        rcases hPQ with ⟨rfl, rfl⟩ | ⟨rfl, rfl⟩
        · rw [e1]
          refine ih k _ _ _ _ (B * 31) (by omega) (by omega) ?_ ?_ ?_ hB1 (.inl ⟨rfl, rfl⟩) <;> omega
        · rw [e2]
          refine ih k _ _ _ _ (B * 31) (by omega) (by omega) ?_ ?_ ?_ hB1 (.inr ⟨rfl, rfl⟩) <;> omega
theorem fraction_same {l : List Int} {s : Int} {k : Nat} (hs : s = 1 ∨ s = -1) (h : isTerms l = true) (h0 : 0 < l.length) (hk : l.length < k) : ∃ r, impl_fraction.f k l s = some r ∧ spec_ctFraction.f k l s = some r := by
  obtain ⟨hn, hl⟩ := terms_mem h
  unfold impl_fraction.f spec_ctFraction.f
  rw [w64 (x := (l.length : Int) - 1) (by omega) (by omega), w64 (x := (l.length : Int) - 2) (by omega) (by omega)]
  simp only [if_pos (show 0 ≤ (l.length : Int) - 1 by omega), if_pos (show (l.length : Int) - 1 < l.length by omega)]
  have e : (l.length : Int) - 1 = ((l.length - 1 : Nat) : Int) := by omega
  have e2 : (l.length : Int) - 2 = ((l.length - 1 : Nat) : Int) - 1 := by omega
  rw [e2, e, rd_nat (by omega)]
  have ha := hl l[l.length - 1] (List.getElem_mem (by omega))
  have hp : 31 ^ (l.length - 1) ≤ 31 ^ 9 := Nat.pow_le_pow_right (by omega) (by omega)
  exact fraction_l0 l s hs hl hn (l.length - 1) k _ 1 _ 1 30 (by omega) (by omega) (by omega) (by omega) (by omega) (by omega) (.inl ⟨rfl, rfl⟩)

def splitOf (l : List Int) (a : Int) : List Int × Bool :=
  if isTerms l = true ∧ 1 ≤ a ∧ a ≤ (l.length : Int) - 1 then ([contOf (-1) (l.take a.toNat), contOf (-1) (l.drop a.toNat), contOf (-1) (l.take (a - 1).toNat), contOf (-1) (l.drop (a + 1).toNat)], true) else ([], false)
theorem splitOf_len (l : List Int) (a : Int) : (splitOf l a).1.length ≤ 4 := by
  unfold splitOf
  split <;> simp
theorem spec_split {l : List Int} {a : Int} {k : Nat} (hl : l.length ≤ 1048576) (hk : l.length + 1 < k) : spec_SplitContinuant.f k l a = some (splitOf l a) := by
  obtain ⟨k, rfl, hk1⟩ := fuel hk
  unfold spec_SplitContinuant.f splitOf
  rw [ctGood_eq (by omega) (by omega), Option.bind_some, w64 (x := (l.length : Int) - 1) (by omega) (by omega)]
  cases hT : isTerms l with
  | false => simp [spec_SplitContinuant.j0]
  | true =>
    rw [if_pos rfl, l1In_eq, Option.bind_some]
    by_cases ha : 1 ≤ a ∧ a ≤ (l.length : Int) - 1
    · rw [decide_eq_true ha, if_pos ⟨rfl, ha⟩]
      simp only [spec_SplitContinuant.j0, Bool.not_true, Bool.false_eq_true, if_false]
      rw [w64 (x := a - 1) (by omega) (by omega), w64 (x := a + 1) (by omega) (by omega)]
      rw [if_pos (by omega), if_pos (by omega), ctValue_eq (k := k) _ (by simp; omega) (by simp; omega), Option.bind_some, ctValue_eq (k := k) _ (by simp; omega) (by simp; omega), Option.bind_some,
        if_pos (by omega), if_pos (by omega), ctValue_eq (k := k) _ (by simp; omega) (by simp; omega), Option.bind_some, if_pos (by omega), if_pos (by omega), ctValue_eq (k := k) _ (by simp; omega) (by simp; omega), Option.bind_some]
    · rw [decide_eq_false ha, if_neg (by simp only [true_and]; exact ha)]
      simp [spec_SplitContinuant.j0]
theorem impl_split {l : List Int} {a : Int} {k : Nat} (hl : l.length ≤ 1048576) (hk : l.length + 1 < k) : impl_SplitContinuant.f k l a = some (splitOf l a) := by
  obtain ⟨k, rfl, hk1⟩ := fuel hk
  unfold impl_SplitContinuant.f splitOf
  rw [IsTermList_eq (by omega) (by omega), Option.bind_some, w64 (x := (l.length : Int) - 1) (by omega) (by omega)]
  cases hT : isTerms l with
  | false => simp [impl_SplitContinuant.j0]
  | true =>
    rw [if_pos rfl, within_eq, Option.bind_some]
    by_cases ha : 1 ≤ a ∧ a ≤ (l.length : Int) - 1
    · rw [decide_eq_true ha, if_pos ⟨rfl, ha⟩]
      simp only [impl_SplitContinuant.j0, Bool.not_true, Bool.false_eq_true, if_false]
      rw [w64 (x := a - 1) (by omega) (by omega), w64 (x := a + 1) (by omega) (by omega)]
      rw [if_pos (by omega), if_pos (by omega), continuant_eq (k := k) _ (by simp; omega) (by simp; omega), Option.bind_some, continuant_eq (k := k) _ (by simp; omega) (by simp; omega), Option.bind_some,
        if_pos (by omega), if_pos (by omega), continuant_eq (k := k) _ (by simp; omega) (by simp; omega), Option.bind_some, if_pos (by omega), if_pos (by omega), continuant_eq (k := k) _ (by simp; omega) (by simp; omega), Option.bind_some]
    · rw [decide_eq_false ha, if_neg (by simp only [true_and]; exact ha)]
      simp [impl_SplitContinuant.j0]

theorem some_f {p : Prop} [Decidable p] (h : ¬ p) : some false = some (decide p) := by rw [decide_eq_false h]
theorem some_t {p : Prop} [Decidable p] (h : p) : some true = some (decide p) := by rw [decide_eq_true h]
theorem some_d {p q : Prop} [Decidable p] [Decidable q] (h : p ↔ q) : some (decide p) = some (decide q) := by rw [decide_eq_decide.2 h]
theorem some_b {b : Bool} {p : Prop} [Decidable p] (h : b = true ↔ p) : some b = some (decide p) := by
  congr 1
  rw [Bool.eq_iff_iff, h, decide_eq_true_iff]

def IsDiag (n a b : Int) : Prop := 3 ≤ n ∧ n ≤ 12 ∧ 0 ≤ a ∧ b ≤ n - 1 ∧ 2 ≤ b - a ∧ b - a ≤ n - 2
instance (n a b : Int) : Decidable (IsDiag n a b) := by unfold IsDiag; infer_instance
theorem poIs_eq (n : Int) : spec_poIs.f n = some (decide (3 ≤ n ∧ n ≤ 12)) := by
  unfold spec_poIs.f
  simp only [l1In_eq, Option.bind_some]
theorem isPolygon_eq (n : Int) : impl_isPolygon.f n = some (decide (3 ≤ n ∧ n ≤ 12)) := by
  unfold impl_isPolygon.f
  simp only [within_eq, Option.bind_some]
theorem isDiagonal_eq {n : Int} (hn : 3 ≤ n ∧ n ≤ 12) (a b : Int) : impl_isDiagonal.f n a b = some (decide (IsDiag n a b)) := by
  unfold impl_isDiagonal.f
  simp only [within_eq, Option.bind_some, decide_eq_true_eq]
  rw [w64 (x := n - 1) (by omega) (by omega)]
  by_cases ha : 0 ≤ a ∧ a ≤ n - 1
  · rw [if_pos ha]
    by_cases hb : 0 ≤ b ∧ b ≤ n - 1
    · rw [if_pos hb, w64 (x := b - a) (by omega) (by omega)]
      by_cases hc : b - a > 1
      · rw [if_pos hc]
        by_cases h0 : a = 0
        · rw [if_pos h0]; exact some_b (by unfold IsDiag; simp; omega)
        · rw [if_neg h0]; exact some_b (by unfold IsDiag; simp; omega)
      · rw [if_neg hc]; exact some_f (by unfold IsDiag; omega)
    · rw [if_neg hb]; exact some_f (by unfold IsDiag; omega)
  · rw [if_neg ha]; exact some_f (by unfold IsDiag; omega)

def Cross (a b c d : Int) : Prop := (a < c ∧ c < b ∧ b < d) ∨ (c < a ∧ a < d ∧ d < b)
instance (a b c d : Int) : Decidable (Cross a b c d) := by unfold Cross; infer_instance
theorem doCross_eq (a b c d : Int) : impl_doCross.f a b c d = some (decide (Cross a b c d)) := by
  unfold impl_doCross.f Cross
  (repeat' split) <;> first | exact some_t (by omega) | exact some_f (by omega) | exact some_d (by omega)

theorem rdT_nat {l : List S80} {i : Nat} (h : i < l.length) : rd_T80 l (i : Int) = l[i] := by
  unfold rd_T80
  rw [Int.toNat_natCast, List.getD_eq_getElem?_getD, List.getElem?_eq_getElem h]
  rfl
theorem rdT_drop {l : List S80} {i : Nat} (h : i < l.length) : l.drop i = rd_T80 l (i : Int) :: l.drop (i + 1) := by
  rw [rdT_nat h, ← List.drop_eq_getElem_cons h]
def lessD (a b c d : Int) : Bool := decide (a < c ∨ (a = c ∧ b < d))
def okAt (n : Int) (l : List S80) (i : Nat) : Bool :=
  decide (IsDiag n (rd_T80 l i).f0 (rd_T80 l i).f1) && (decide (i = 0) || lessD (rd_T80 l ((i : Int) - 1)).f0 (rd_T80 l ((i : Int) - 1)).f1 (rd_T80 l i).f0 (rd_T80 l i).f1) &&
    !((l.take i).any fun e => decide (Cross (rd_T80 l i).f0 (rd_T80 l i).f1 e.f0 e.f1))
def goodFrom (n : Int) (l : List S80) : Nat → Nat → Bool
  | 0, _ => true
  | d + 1, i => okAt n l i && goodFrom n l d (i + 1)
/-- What both programs take a list to be: a triangulation of the polygon. -/
def Good (n : Int) (l : List S80) : Bool := decide (3 ≤ n ∧ n ≤ 12) && (decide ((l.length : Int) = n - 3) && goodFrom n l l.length 0)
theorem cmpInt_eq (a b : Int) : cmp_Compare_int.f a b = some (if a < b then -1 else if a > b then 1 else 0) := by
  unfold cmp_Compare_int.f cmp_isNaN_int.f
  simp only [Option.bind_some, bne_self_eq_false, Bool.false_eq_true, if_false]
  split
  · rfl
  · split <;> rfl
theorem cmpD_eq {k : Nat} (hk : 4 ≤ k) (a b c d : Int) : ∃ r, impl_compareDiagonals.f k a b c d = some r ∧ (decide (r ≥ 0) = !(lessD a b c d)) ∧ (r < 0 ↔ lessD a b c d = true) ∧ (r = 0 ↔ a = c ∧ b = d) := by
  obtain ⟨k, rfl⟩ : ∃ m, k = m + 4 := ⟨k - 4, by omega⟩
  unfold impl_compareDiagonals.f
  rw [cmpInt_eq, cmpInt_eq, Option.bind_some, Option.bind_some]
  have h0 : ∀ x y : Int, rd [x, y] 0 = x := fun _ _ => rfl
  have h1 : ∀ x y : Int, rd [x, y] 1 = y := fun _ _ => rfl
  have hor : ∀ x y : Int, cmp_Or_int.f (k + 4) [x, y] = some (if x = 0 then y else x) := by
    intro x y
    unfold cmp_Or_int.f
    have w1 : wrap64 (0 + 1) = 1 := w64 (by omega) (by omega)
    have w2 : wrap64 (1 + 1) = 2 := w64 (by omega) (by omega)
    have n2 : ((([x, y] : List Int).length : Nat) : Int) = 2 := rfl
    rw [n2]
    simp only [cmp_Or_int.l0, n2, h0, h1, w1, w2]
    by_cases hx : x = 0
    · by_cases hy : y = 0
      · simp [hx, hy]
      · simp [hx, hy]
    · simp [hx]
  rw [hor, Option.bind_some]
  refine ⟨_, rfl, ?_⟩
  unfold lessD
  by_cases h1 : a < c
  · simp [h1]; omega
  · by_cases h2 : a > c
    · simp [h1, h2]; omega
    · obtain rfl : a = c := by omega
      by_cases h3 : b < d
      · simp [h3]; omega
      · by_cases h4 : b > d
        · simp [h3, h4]; omega
        · simp [h3, h4]; omega
theorem wpred {i n : Nat} (h0 : 0 < i) (h : i < n) (hn : n ≤ 9223372036854775807) : wrap64 ((i : Int) - 1) = (i : Int) - 1 := by
  rw [w64 (by omega) (by omega)]
theorem any_cross (a b : Int) (l : List S80) (hl : l.length ≤ 1048576) : impl_Diagonal__at_impl_IsTriangulation_1.f l a b = some (l.any fun e => decide (Cross a b e.f0 e.f1)) := by
  unfold impl_Diagonal__at_impl_IsTriangulation_1.f
  rw [if_pos hl]
  congr 2
  funext e
  rw [Bool.eq_iff_iff, decide_eq_true_iff]
  unfold impl_Diagonal__at_impl_IsTriangulation_1.x Cross
  simp only [Bool.or_eq_true, Bool.and_eq_true, decide_eq_true_eq]
  omega
theorem implTri_l0 (n : Int) (hn : 3 ≤ n ∧ n ≤ 12) (l : List S80) (hl : l.length ≤ 1048576) : ∀ (d k i : Nat), i + d = l.length → d + 5 < k → impl_IsTriangulation.l0 k n l l (l.length : Int) (i : Int) = some (goodFrom n l d i) := by
  intro d
  induction d with
  | zero =>
    intro k i hi hk
    obtain ⟨k, rfl, _⟩ := fuel hk
    simp only [impl_IsTriangulation.l0, goodFrom]
    rw [if_neg (by omega)]
  | succ d ih =>
    intro k i hi hk
    obtain ⟨k, rfl, hk⟩ := fuel hk
    simp only [impl_IsTriangulation.l0, goodFrom, okAt]
    rw [if_pos (by omega), if_pos (by omega), if_pos (by omega), isDiagonal_eq hn, Option.bind_some]
    by_cases h1 : IsDiag n (rd_T80 l i).f0 (rd_T80 l i).f1
    · rw [decide_eq_true h1, ite_t]
      by_cases h2 : (i : Int) > 0
      · rw [if_pos h2, wpred (n := l.length) (by omega) (by omega) (by omega), if_pos (by omega), if_pos (by omega)]
        obtain ⟨r, hr, hr1, hr2, _⟩ := cmpD_eq (k := k) (by omega) (rd_T80 l ((i : Int) - 1)).f0 (rd_T80 l ((i : Int) - 1)).f1 (rd_T80 l i).f0 (rd_T80 l i).f1
        rw [hr, Option.bind_some]
        by_cases h3 : r ≥ 0
        · rw [if_pos h3]
          have : lessD (rd_T80 l ((i : Int) - 1)).f0 (rd_T80 l ((i : Int) - 1)).f1 (rd_T80 l i).f0 (rd_T80 l i).f1 = false := by
            rw [decide_eq_true h3] at hr1
            simpa using hr1.symm
          simp [this]
          omega
        · rw [if_neg h3, if_pos (by omega), any_cross _ _ _ (by rw [List.length_take]; omega), Option.bind_some, hr2.1 (by omega), Int.toNat_natCast, wsucc (n := l.length) (by omega) (by omega), ih k (i + 1) (by omega) (by omega)]
          cases h4 : (l.take i).any fun e => decide (Cross (rd_T80 l i).f0 (rd_T80 l i).f1 e.f0 e.f1) <;> simp
      · rw [if_neg h2, if_pos (by omega), any_cross _ _ _ (by rw [List.length_take]; omega), Option.bind_some, Int.toNat_natCast, wsucc (n := l.length) (by omega) (by omega), ih k (i + 1) (by omega) (by omega)]
        have h3 : i = 0 := by omega
        subst h3
        cases h4 : (l.take 0).any fun e => decide (Cross (rd_T80 l ((0 : Nat) : Int)).f0 (rd_T80 l ((0 : Nat) : Int)).f1 e.f0 e.f1) <;> simp
    · rw [decide_eq_false h1, ite_f]
      simp
theorem implTri_eq (n : Int) (l : List S80) {k : Nat} (hl : l.length ≤ 1048576) (hk : 20 ≤ k) : impl_IsTriangulation.f k n l = some (Good n l) := by
  unfold impl_IsTriangulation.f Good
  obtain ⟨k, rfl⟩ : ∃ m, k = m + 1 := ⟨k - 1, by omega⟩
  rw [isPolygon_eq, Option.bind_some]
  by_cases hn : 3 ≤ n ∧ n ≤ 12
  · rw [decide_eq_true hn, ite_t, w64 (x := n - 3) (by omega) (by omega)]
    simp only [impl_IsTriangulation.j0]
    by_cases h : (l.length : Int) = n - 3
    · rw [bne_eq_false_iff_eq.2 h, ite_f, decide_eq_true h, ← Int.natCast_zero, implTri_l0 n hn l hl l.length k 0 (by omega) (by omega)]
      rfl
    · rw [bne_iff_ne.2 h, ite_t, decide_eq_false h]
      rfl
  · rw [decide_eq_false hn, ite_f]
    simp only [impl_IsTriangulation.j0]
    rfl
theorem poLess_eq (a b c d : Int) : spec_poLess.f a b c d = some (lessD a b c d) := by
  unfold spec_poLess.f lessD
  (repeat' split) <;> first | exact some_t (by omega) | exact some_f (by omega) | exact some_d (by omega)
def qAdd (q : List Int) (a b : Int) : List Int := (q.set a.toNat (wrap64 (rd q a + 1))).set b.toNat (wrap64 (rd (q.set a.toNat (wrap64 (rd q a + 1))) b + 1))
def qFold (q : List Int) : List S80 → List Int
  | [] => q
  | d :: l => qFold (qAdd q d.f0 d.f1) l
theorem qAdd_length (q : List Int) (a b : Int) : (qAdd q a b).length = q.length := by simp [qAdd]
theorem qFold_length : ∀ (l : List S80) (q : List Int), (qFold q l).length = q.length
  | [], _ => rfl
  | d :: l, q => by rw [qFold, qFold_length l, qAdd_length]
/-- The triangles at each corner. -/
def quidOf (n : Int) (l : List S80) : List Int := qFold (List.replicate n.toNat 1) l
theorem quidOf_length (n : Int) (l : List S80) : (quidOf n l).length = n.toNat := by rw [quidOf, qFold_length, List.length_replicate]
def InR (n : Int) (l : List S80) : Prop := ∀ i : Nat, i < l.length → 0 ≤ (rd_T80 l i).f0 ∧ (rd_T80 l i).f0 < n ∧ 0 ≤ (rd_T80 l i).f1 ∧ (rd_T80 l i).f1 < n
theorem goodFrom_ok (n : Int) (l : List S80) : ∀ (d i : Nat), goodFrom n l d i = true ↔ ∀ j, i ≤ j → j < i + d → okAt n l j = true := by
  intro d
  induction d with
  | zero => intro i; simp [goodFrom]; intro j h1 h2; omega
  | succ d ih =>
    intro i
    rw [goodFrom, Bool.and_eq_true, ih]
    constructor
    · rintro ⟨h1, h2⟩ j hj1 hj2
      by_cases e : j = i
      · rw [e]; exact h1
      · exact h2 j (by omega) (by omega)
    · intro h
      exact ⟨h i (by omega) (by omega), fun j h1 h2 => h j (by omega) (by omega)⟩
theorem good_iff (n : Int) (l : List S80) : Good n l = true ↔ (3 ≤ n ∧ n ≤ 12) ∧ (l.length : Int) = n - 3 ∧ ∀ j, j < l.length → okAt n l j = true := by
  unfold Good
  rw [Bool.and_eq_true, Bool.and_eq_true, goodFrom_ok, decide_eq_true_eq, decide_eq_true_eq]
  constructor
  · rintro ⟨h1, h2, h3⟩
    exact ⟨h1, h2, fun j hj => h3 j (by omega) (by omega)⟩
  · rintro ⟨h1, h2, h3⟩
    exact ⟨h1, h2, fun j hj1 hj2 => h3 j (by omega)⟩
theorem okAt_diag {n : Int} {l : List S80} {j : Nat} (h : okAt n l j = true) : IsDiag n (rd_T80 l j).f0 (rd_T80 l j).f1 := by
  unfold okAt at h
  rw [Bool.and_eq_true, Bool.and_eq_true] at h
  exact of_decide_eq_true h.1.1
theorem good_inR {n : Int} {l : List S80} (h : Good n l = true) : InR n l := by
  intro i hi
  have h1 := okAt_diag (((good_iff n l).1 h).2.2 i hi)
  unfold IsDiag at h1
  omega
theorem implQ_l0 (l : List S80) (n : Int) (hl : l.length ≤ 1048576) (hR : InR n l) : ∀ (d k i : Nat) (q : List Int), i + d = l.length → d < k → (q.length : Int) = n →
    impl_quiddity.l0 k q l (l.length : Int) (i : Int) = some (qFold q (l.drop i)) := by
  intro d
  induction d with
  | zero =>
    intro k i q hi hk hq
    obtain ⟨k, rfl, _⟩ := fuel hk
    simp only [impl_quiddity.l0]
    rw [if_neg (by omega), List.drop_of_length_le (by omega)]
    rfl
  | succ d ih =>
    intro k i q hi hk hq
    obtain ⟨k, rfl, hk⟩ := fuel hk
    have hr := hR i (by omega)
    simp only [impl_quiddity.l0]
    have hh := ih k (i + 1) (qAdd q (rd_T80 l i).f0 (rd_T80 l i).f1) (by omega) (by omega) (by rw [qAdd_length]; exact hq)
    rw [if_pos (by omega), if_pos (by omega), if_pos (by omega), if_pos (by omega), if_pos (by omega), Option.bind_some, if_pos (by omega), if_pos (by omega), wsucc (n := l.length) (by omega) (by omega), rdT_drop (l := l) (i := i) (by omega), qFold]
    exact hh
theorem implQuid_eq {n : Int} {l : List S80} (hn : 0 ≤ n ∧ n ≤ 12) (hl : l.length ≤ 1048576) (hR : InR n l) {k : Nat} (hk : l.length < k) : impl_quiddity.f k n l = some (quidOf n l) := by
  unfold impl_quiddity.f slices_Repeat_int_int.f
  rw [if_pos ⟨rfl, hn.1, hn.2⟩, Option.bind_some]
  exact implQ_l0 l n hl hR l.length k 0 _ (by omega) hk (by rw [List.length_replicate]; omega)
/-! ### Ears are cut off: what both programs do, over numbers and lists. -/
def nth (l : List Int) (i : Nat) : Int := l.getD i 0
theorem rd_nth (l : List Int) (i : Nat) : rd l (i : Int) = nth l i := rfl
theorem nth_get {l : List Int} {i : Nat} (h : i < l.length) : nth l i = l[i] := by
  unfold nth
  rw [List.getD_eq_getElem?_getD, List.getElem?_eq_getElem h]
  rfl
def bef (i m : Nat) : Nat := (i + m - 1) % m
def beh (i m : Nat) : Nat := (i + 1) % m
theorem bef_eq {i m : Nat} (h : i < m) : bef i m = if i = 0 then m - 1 else i - 1 := by
  unfold bef
  split
  · next e => subst e; rw [Nat.zero_add, Nat.mod_eq_of_lt (by omega)]
  · rw [show i + m - 1 = (i - 1) + m by omega, Nat.add_mod_right, Nat.mod_eq_of_lt (by omega)]
theorem beh_eq {i m : Nat} (h : i < m) : beh i m = if i + 1 = m then 0 else i + 1 := by
  unfold beh
  split
  · next e => rw [e, Nat.mod_self]
  · rw [Nat.mod_eq_of_lt (by omega)]
def cutD (names : List Int) (i : Nat) : S80 :=
  ⟨min (nth names (bef i names.length)) (nth names (beh i names.length)), max (nth names (bef i names.length)) (nth names (beh i names.length))⟩
def dec1 (left : List Int) (j : Nat) : List Int := left.set j (wrap64 (nth left j - 1))
def stepL (left : List Int) (i : Nat) : List Int := (dec1 (dec1 left (bef i left.length)) (beh i left.length)).eraseIdx i
def cut : Nat → List Int → List Int → Option (List S80 × List Int)
  | 0, left, _ => some ([], left)
  | d + 1, left, names =>
    match left.findIdx? (· == 1) with
    | none => none
    | some i => (cut d (stepL left i) (names.eraseIdx i)).map fun r => (cutD names i :: r.1, r.2)
theorem nth_set {l : List Int} {i j : Nat} {v : Int} (hj : j < l.length) : nth (l.set i v) j = if i = j then v else nth l j := by
  rw [nth_get (by rw [List.length_set]; exact hj), List.getElem_set, nth_get hj]
theorem nth_erase {l : List Int} {i j : Nat} (hj : j + 1 < l.length) (hi : i < l.length) : nth (l.eraseIdx i) j = nth l (if j < i then j else j + 1) := by
  rw [nth_get (by rw [List.length_eraseIdx, if_pos hi]; omega), List.getElem_eraseIdx]
  split
  · rw [nth_get (by omega)]
  · rw [nth_get (by omega)]
theorem dec1_length (l : List Int) (j : Nat) : (dec1 l j).length = l.length := List.length_set ..
theorem stepL_length {l : List Int} {i : Nat} (h : i < l.length) : (stepL l i).length = l.length - 1 := by
  rw [stepL, List.length_eraseIdx, dec1_length, dec1_length, if_pos h]
def upd (left : List Int) (i j : Nat) : Int := if j = bef i left.length ∨ j = beh i left.length then wrap64 (nth left j - 1) else nth left j
theorem bef_ne_beh {i m : Nat} (h : i < m) (hm : 3 ≤ m) : bef i m ≠ beh i m ∧ bef i m < m ∧ beh i m < m ∧ bef i m ≠ i ∧ beh i m ≠ i := by
  rw [bef_eq h, beh_eq h]
  (repeat' split) <;> omega
theorem stepL_nth {left : List Int} {i j : Nat} (hi : i < left.length) (hm : 3 ≤ left.length) (hj : j + 1 < left.length) : nth (stepL left i) j = upd left i (if j < i then j else j + 1) := by
  have h := bef_ne_beh hi hm
  rw [stepL, nth_erase (by rw [dec1_length, dec1_length]; exact hj) (by rw [dec1_length, dec1_length]; exact hi)]
  generalize hJ : (if j < i then j else j + 1) = J
  have hJl : J < left.length := by rw [← hJ]; split <;> omega
  unfold dec1 upd
  rw [nth_set (by rw [List.length_set]; exact hJl), nth_set hJl, nth_set h.2.2.1, if_neg h.1]
  by_cases e1 : beh i left.length = J
  · rw [if_pos e1, if_pos (Or.inr e1.symm), e1]
  · rw [if_neg e1]
    by_cases e2 : bef i left.length = J
    · rw [if_pos e2, if_pos (Or.inl e2.symm), e2]
    · rw [if_neg e2, if_neg (by omega)]
def cnt : List S80 → Int → Int
  | [], _ => 0
  | e :: l, c => (if e.f0 = c then 1 else 0) + (if e.f1 = c then 1 else 0) + cnt l c
theorem cnt_bound (c : Int) : ∀ l : List S80, (∀ e ∈ l, e.f0 < e.f1) → 0 ≤ cnt l c ∧ cnt l c ≤ l.length
  | [], _ => by simp [cnt]
  | e :: l, h => by
    have h1 := cnt_bound c l (fun x hx => h x (List.mem_cons_of_mem _ hx))
    have h2 := h e (List.mem_cons_self ..)
    rw [cnt, List.length_cons]
    split <;> split <;> omega
theorem cnt_perm {l m : List S80} (h : l.Perm m) (c : Int) : cnt l c = cnt m c := by
  induction h with
  | nil => rfl
  | cons x _ ih => rw [cnt, cnt, ih]
  | swap x y l => simp only [cnt]; omega
  | trans _ _ h1 h2 => rw [h1, h2]
theorem cnt_zero {c : Int} : ∀ l : List S80, (∀ e ∈ l, e.f0 ≠ c ∧ e.f1 ≠ c) → cnt l c = 0
  | [], _ => rfl
  | e :: l, h => by
    have h2 := h e (List.mem_cons_self ..)
    rw [cnt, if_neg h2.1, if_neg h2.2, cnt_zero l (fun x hx => h x (List.mem_cons_of_mem _ hx))]
    rfl
def Inc (names : List Int) : Prop := ∀ i j, i < j → j < names.length → nth names i < nth names j
theorem Inc.erase {names : List Int} (h : Inc names) {k : Nat} (hk : k < names.length) : Inc (names.eraseIdx k) := by
  intro i j hij hj
  rw [List.length_eraseIdx, if_pos hk] at hj
  rw [nth_erase (by omega) hk, nth_erase (by omega) hk]
  exact h _ _ (by split <;> split <;> omega) (by split <;> omega)
theorem mem_nth {l : List Int} {x : Int} : x ∈ l ↔ ∃ i, i < l.length ∧ nth l i = x := by
  rw [List.mem_iff_getElem]
  constructor
  · rintro ⟨i, hi, e⟩; exact ⟨i, hi, by rw [nth_get hi, e]⟩
  · rintro ⟨i, hi, e⟩; exact ⟨i, hi, by rw [← nth_get hi, e]⟩
theorem mem_erase {l : List Int} {k : Nat} (hk : k < l.length) {x : Int} (h : x ∈ l.eraseIdx k) : ∃ i, i < l.length ∧ i ≠ k ∧ nth l i = x := by
  obtain ⟨i, hi, e⟩ := mem_nth.1 h
  rw [List.length_eraseIdx, if_pos hk] at hi
  rw [nth_erase (by omega) hk] at e
  exact ⟨_, by split <;> omega, by split <;> omega, e⟩
theorem Inc.inj {names : List Int} (h : Inc names) {i j : Nat} (hi : i < names.length) (hj : j < names.length) (e : nth names i = nth names j) : i = j := by
  rcases Nat.lt_trichotomy i j with c | c | c
  · have := h _ _ c hj; omega
  · exact c
  · have := h _ _ c hi; omega
theorem Inc.le {names : List Int} (h : Inc names) {i j : Nat} (hij : i ≤ j) (hj : j < names.length) : nth names i ≤ nth names j := by
  by_cases e : i = j
  · rw [e]; omega
  · have := h i j (by omega) hj; omega
def Side (a b : Int) (l : List Int) : Prop := (∀ w ∈ l, a ≤ w ∧ w ≤ b) ∨ (∀ w ∈ l, w ≤ a ∨ b ≤ w)
theorem cutD_form {names : List Int} (h : Inc names) {i : Nat} (hi : i < names.length) (hm : 4 ≤ names.length) :
    ((cutD names i).f0 ∈ names ∧ (cutD names i).f1 ∈ names) ∧ (∃ u ∈ names, (cutD names i).f0 < u ∧ u < (cutD names i).f1) ∧ (∃ v ∈ names, v < (cutD names i).f0 ∨ (cutD names i).f1 < v) ∧ Side (cutD names i).f0 (cutD names i).f1 (names.eraseIdx i) := by
  have M : ∀ j, j < names.length → nth names j ∈ names := fun j hj => mem_nth.2 ⟨j, hj, rfl⟩
  unfold cutD
  rw [bef_eq hi, beh_eq hi]
  by_cases h0 : i = 0
  · subst h0
    rw [if_pos rfl, if_neg (by omega)]
    have h1 := h 1 (names.length - 1) (by omega) (by omega)
    rw [show min (nth names (names.length - 1)) (nth names (0 + 1)) = nth names 1 by simp; omega, show max (nth names (names.length - 1)) (nth names (0 + 1)) = nth names (names.length - 1) by simp; omega]
    refine ⟨⟨M _ (by omega), M _ (by omega)⟩, ⟨nth names 2, M _ (by omega), h _ _ (by omega) (by omega), h _ _ (by omega) (by omega)⟩, ⟨nth names 0, M _ (by omega), Or.inl (h _ _ (by omega) (by omega))⟩, Or.inl fun w hw => ?_⟩
    obtain ⟨j, hj, hne, rfl⟩ := mem_erase hi hw
    exact ⟨h.le (by omega) (by omega), h.le (by omega) (by omega)⟩
  · rw [if_neg h0]
    by_cases h1 : i + 1 = names.length
    · rw [if_pos h1]
      have h2 := h 0 (i - 1) (by omega) (by omega)
      rw [show min (nth names (i - 1)) (nth names 0) = nth names 0 by omega, show max (nth names (i - 1)) (nth names 0) = nth names (i - 1) by omega]
      refine ⟨⟨M _ (by omega), M _ (by omega)⟩, ⟨nth names 1, M _ (by omega), h _ _ (by omega) (by omega), h _ _ (by omega) (by omega)⟩, ⟨nth names i, M _ (by omega), Or.inr (h _ _ (by omega) (by omega))⟩, Or.inl fun w hw => ?_⟩
      obtain ⟨j, hj, hne, rfl⟩ := mem_erase hi hw
      exact ⟨h.le (by omega) (by omega), h.le (by omega) (by omega)⟩
    · rw [if_neg h1]
      have h2 := h (i - 1) (i + 1) (by omega) (by omega)
      rw [show min (nth names (i - 1)) (nth names (i + 1)) = nth names (i - 1) by omega, show max (nth names (i - 1)) (nth names (i + 1)) = nth names (i + 1) by omega]
      refine ⟨⟨M _ (by omega), M _ (by omega)⟩, ⟨nth names i, M _ (by omega), h _ _ (by omega) (by omega), h _ _ (by omega) (by omega)⟩, ?_, Or.inr fun w hw => ?_⟩
      · by_cases h3 : i = 1
        · exact ⟨nth names 3, M _ (by omega), Or.inr (h _ _ (by omega) (by omega))⟩
        · exact ⟨nth names 0, M _ (by omega), Or.inl (h _ _ (by omega) (by omega))⟩
      · obtain ⟨j, hj, hne, rfl⟩ := mem_erase hi hw
        by_cases h3 : j < i
        · exact Or.inl (h.le (by omega) (by omega))
        · exact Or.inr (h.le (by omega) (by omega))
theorem cut_some {d : Nat} {left names : List Int} {N : List S80} {r : List Int} (h : cut (d + 1) left names = some (N, r)) :
    ∃ i N', i < left.length ∧ nth left i = 1 ∧ left.findIdx? (· == 1) = some i ∧ cut d (stepL left i) (names.eraseIdx i) = some (N', r) ∧ N = cutD names i :: N' := by
  rw [cut] at h
  cases hf : left.findIdx? (· == 1) with
  | none => rw [hf] at h; cases h
  | some i =>
    rw [hf] at h
    obtain ⟨hi, h1, _⟩ := List.findIdx?_eq_some_iff_getElem.1 hf
    obtain ⟨⟨N', r'⟩, h2, h3⟩ := Option.map_eq_some_iff.1 h
    obtain ⟨rfl, rfl⟩ := Prod.mk.inj h3
    exact ⟨i, N', hi, by rw [nth_get hi]; simpa using h1, rfl, h2, rfl⟩
theorem cut_geo : ∀ (d : Nat) (left names : List Int) (N : List S80) (r : List Int), left.length = d + 3 → names.length = d + 3 → Inc names → cut d left names = some (N, r) →
    N.length = d ∧ (∀ e ∈ N, (e.f0 ∈ names ∧ e.f1 ∈ names) ∧ (∃ u ∈ names, e.f0 < u ∧ u < e.f1) ∧ ∃ v ∈ names, v < e.f0 ∨ e.f1 < v) ∧ N.Pairwise fun a b => ¬ Cross a.f0 a.f1 b.f0 b.f1 ∧ a ≠ b := by
  intro d
  induction d with
  | zero =>
    intro left names N r hl hn hI h
    rw [cut] at h
    obtain ⟨rfl, rfl⟩ := Prod.mk.inj (Option.some.inj h)
    exact ⟨rfl, fun e he => absurd he List.not_mem_nil, List.Pairwise.nil⟩
  | succ d ih =>
    intro left names N r hl hn hI h
    obtain ⟨i, N', hi, h1, _, h2, rfl⟩ := cut_some h
    have hin : i < names.length := by omega
    obtain ⟨g1, g2, g3⟩ := ih (stepL left i) (names.eraseIdx i) N' r (by rw [stepL_length hi]; omega) (by rw [List.length_eraseIdx, if_pos hin]; omega) (hI.erase hin) h2
    obtain ⟨c1, c2, c3, c4⟩ := cutD_form hI hin (by omega)
    have sub : ∀ x, x ∈ names.eraseIdx i → x ∈ names := fun x hx => List.mem_of_mem_eraseIdx hx
    refine ⟨by rw [List.length_cons, g1], ?_, List.Pairwise.cons ?_ g3⟩
    · intro e he
      rcases List.mem_cons.1 he with rfl | he
      · exact ⟨c1, c2, c3⟩
      · obtain ⟨⟨a1, a2⟩, ⟨u, hu, hu2⟩, ⟨v, hv, hv2⟩⟩ := g2 e he
        exact ⟨⟨sub _ a1, sub _ a2⟩, ⟨u, sub _ hu, hu2⟩, ⟨v, sub _ hv, hv2⟩⟩
    · intro e he
      obtain ⟨⟨a1, a2⟩, ⟨u, hu, hu2⟩, ⟨v, hv, hv2⟩⟩ := g2 e he
      rcases c4 with s | s
      · have s1 := s _ a1; have s2 := s _ a2; have s3 := s _ hv
        refine ⟨by unfold Cross; omega, fun e2 => ?_⟩
        rw [← e2] at hv2
        omega
      · have s1 := s _ a1; have s2 := s _ a2; have s3 := s _ hu
        refine ⟨by unfold Cross; omega, fun e2 => ?_⟩
        rw [← e2] at hu2
        omega
def i64 (x : Int) : Prop := -9223372036854775808 ≤ x ∧ x ≤ 9223372036854775807
theorem wrap_i64 (x : Int) : i64 (wrap64 x) := by unfold i64 wrap64; omega
theorem stepL_i64 {left : List Int} {i : Nat} (hi : i < left.length) (hm : 3 ≤ left.length) (h : ∀ j, j < left.length → i64 (nth left j)) : ∀ j, j < (stepL left i).length → i64 (nth (stepL left i) j) := by
  intro j hj
  rw [stepL_length hi] at hj
  rw [stepL_nth hi hm (by omega)]
  have hJ : (if j < i then j else j + 1) < left.length := by split <;> omega
  generalize (if j < i then j else j + 1) = J at hJ ⊢
  unfold upd
  split
  · exact wrap_i64 _
  · exact h _ hJ
theorem cut_val : ∀ (d : Nat) (left names : List Int) (N : List S80), left.length = d + 3 → names.length = d + 3 → Inc names → d ≤ 9 → (∀ j, j < left.length → i64 (nth left j)) → cut d left names = some (N, [1, 1, 1]) →
    ∀ j, j < d + 3 → nth left j = 1 + cnt N (nth names j) := by
  intro d
  induction d with
  | zero =>
    intro left names N hl hn hI hd hw h j hj
    rw [cut] at h
    obtain ⟨rfl, rfl⟩ := Prod.mk.inj (Option.some.inj h)
    rw [cnt]
    match j, hj with
    | 0, _ => rfl
    | 1, _ => rfl
    | 2, _ => rfl
  | succ d ih =>
    intro left names N hl hn hI hd hw h j hj
    obtain ⟨i, N', hi, h1, _, h2, rfl⟩ := cut_some h
    have hin : i < names.length := by omega
    have hb := bef_ne_beh hi (by omega)
    have hs : (stepL left i).length = d + 3 := by rw [stepL_length hi]; omega
    have he : (names.eraseIdx i).length = d + 3 := by rw [List.length_eraseIdx, if_pos hin]; omega
    have gg := cut_geo d (stepL left i) (names.eraseIdx i) N' _ hs he (hI.erase hin) h2
    have gv := ih (stepL left i) (names.eraseIdx i) N' hs he (hI.erase hin) (by omega) (stepL_i64 hi (by omega) hw) h2
    have hlt : ∀ e ∈ N', e.f0 < e.f1 := by
      intro e he2
      obtain ⟨_, ⟨u, _, hu⟩, _⟩ := gg.2.1 e he2
      omega
    have hc : cnt (cutD names i :: N') (nth names j) = (if j = bef i left.length then 1 else 0) + (if j = beh i left.length then 1 else 0) + cnt N' (nth names j) := by
      rw [cnt]
      unfold cutD
      rw [show names.length = left.length by omega]
      have e1 : (nth names (bef i left.length) = nth names j) ↔ j = bef i left.length := ⟨fun e => (hI.inj (by omega) (by omega) e).symm, fun e => by rw [e]⟩
      have e2 : (nth names (beh i left.length) = nth names j) ↔ j = beh i left.length := ⟨fun e => (hI.inj (by omega) (by omega) e).symm, fun e => by rw [e]⟩
      rcases Int.le_total (nth names (bef i left.length)) (nth names (beh i left.length)) with c | c
      · rw [Int.min_eq_left c, Int.max_eq_right c]
        simp only [e1, e2]
      · rw [Int.min_eq_right c, Int.max_eq_left c]
        simp only [e1, e2]
        omega
    rw [hc]
    by_cases hji : j = i
    · subst hji
      rw [if_neg (fun e => hb.2.2.2.1 e.symm), if_neg (fun e => hb.2.2.2.2 e.symm), h1, cnt_zero N']
      · rfl
      · intro e he2
        have g := (gg.2.1 e he2).1
        constructor
        · intro e3
          obtain ⟨q, hq, hne, hq2⟩ := mem_erase hin g.1
          exact hne (hI.inj hq hin (hq2.trans e3))
        · intro e3
          obtain ⟨q, hq, hne, hq2⟩ := mem_erase hin g.2
          exact hne (hI.inj hq hin (hq2.trans e3))
    · have g := gv (if j < i then j else j - 1) (by split <;> omega)
      have hJ : (if (if j < i then j else j - 1) < i then (if j < i then j else j - 1) else (if j < i then j else j - 1) + 1) = j := by
        by_cases c : j < i
        · rw [if_pos c, if_pos c]
        · rw [if_neg c, if_neg (by omega)]; omega
      rw [stepL_nth hi (by omega) (by split <;> omega), nth_erase (by split <;> omega) hin, hJ] at g
      have hcb := cnt_bound (nth names j) N' hlt
      rw [gg.1] at hcb
      have hwj := hw j (by omega)
      unfold upd at g
      unfold i64 at hwj
      by_cases c1 : j = bef i left.length
      · rw [if_pos (Or.inl c1)] at g
        rw [if_pos c1, if_neg (by omega)]
        unfold wrap64 at g
        omega
      · by_cases c2 : j = beh i left.length
        · rw [if_pos (Or.inr c2)] at g
          rw [if_neg c1, if_pos c2]
          unfold wrap64 at g
          omega
        · rw [if_neg (by omega)] at g
          rw [if_neg c1, if_neg c2]
          omega

def leD (a b : S80) : Prop := a.f0 < b.f0 ∨ (a.f0 = b.f0 ∧ a.f1 ≤ b.f1)
theorem leD_refl (a : S80) : leD a a := Or.inr ⟨rfl, Int.le_refl _⟩
theorem leD_trans {a b c : S80} (h1 : leD a b) (h2 : leD b c) : leD a c := by unfold leD at *; omega
theorem leD_anti {a b : S80} (h1 : leD a b) (h2 : leD b a) : a = b := by
  obtain ⟨a0, a1⟩ := a
  obtain ⟨b0, b1⟩ := b
  unfold leD at h1 h2
  simp only at h1 h2
  obtain rfl : a0 = b0 := by omega
  obtain rfl : a1 = b1 := by omega
  rfl
theorem less_le {a b : S80} (h : lessD a.f0 a.f1 b.f0 b.f1 = true) : leD a b := by
  have := of_decide_eq_true h
  unfold leD; omega
theorem nless_le {a b : S80} (h : lessD a.f0 a.f1 b.f0 b.f1 = false) : leD b a := by
  have := of_decide_eq_false h
  unfold leD; omega
theorem le_ne_less {a b : S80} (h : leD a b) (hn : a ≠ b) : lessD a.f0 a.f1 b.f0 b.f1 = true := by
  cases hc : lessD a.f0 a.f1 b.f0 b.f1 with
  | true => rfl
  | false => exact absurd (leD_anti h (nless_le hc)) hn
/-- A sorted form. -/
def Srt (N S : List S80) : Prop := S.Perm N ∧ S.Pairwise leD
theorem Srt.unique {N S S' : List S80} (h : Srt N S) (h' : Srt N S') : S = S' :=
  List.Perm.eq_of_pairwise (fun a b _ _ h1 h2 => leD_anti h1 h2) h.2 h'.2 (h.1.trans h'.1.symm)
def namesTo : Nat → List Int
  | 0 => []
  | n + 1 => namesTo n ++ [(n : Int)]
theorem namesTo_length : ∀ n, (namesTo n).length = n
  | 0 => rfl
  | n + 1 => by rw [namesTo, List.length_append, namesTo_length n]; rfl
theorem namesTo_nth : ∀ (n j : Nat), j < n → nth (namesTo n) j = j
  | n + 1, j, h => by
    rw [namesTo]
    unfold nth
    rw [List.getD_eq_getElem?_getD]
    by_cases c : j < n
    · rw [List.getElem?_append_left (by rw [namesTo_length]; exact c)]
      have := namesTo_nth n j c
      unfold nth at this
      rw [List.getD_eq_getElem?_getD] at this
      exact this
    · rw [List.getElem?_append_right (by rw [namesTo_length]; omega), namesTo_length, show j - n = 0 by omega]
      simp
      omega
theorem namesTo_inc (n : Nat) : Inc (namesTo n) := by
  intro i j h1 h2
  rw [namesTo_length] at h2
  rw [namesTo_nth _ _ (by omega), namesTo_nth _ _ h2]
  omega
theorem namesTo_mem {n : Nat} {x : Int} (h : x ∈ namesTo n) : 0 ≤ x ∧ x < n := by
  obtain ⟨i, hi, rfl⟩ := mem_nth.1 h
  rw [namesTo_length] at hi
  rw [namesTo_nth _ _ hi]
  omega
theorem nth_ext {a b : List Int} (hl : a.length = b.length) (h : ∀ i, i < a.length → nth a i = nth b i) : a = b := by
  apply List.ext_getElem hl
  intro i h1 h2
  have := h i h1
  rwa [nth_get h1, nth_get h2] at this
theorem qAdd_nth {q : List Int} {a b : Int} (ha : 0 ≤ a ∧ a < q.length) (hb : 0 ≤ b ∧ b < q.length) (hab : a ≠ b) (hq : ∀ j, j < q.length → 0 ≤ nth q j ∧ nth q j ≤ 1000) {c : Nat} (hc : c < q.length) :
    nth (qAdd q a b) c = nth q c + ((if a = (c : Int) then 1 else 0) + (if b = (c : Int) then 1 else 0)) := by
  unfold qAdd
  have r1 : ∀ (l : List Int) (x : Int), rd l x = nth l x.toNat := fun _ _ => rfl
  have ha2 := hq a.toNat (by omega)
  have hb2 := hq b.toNat (by omega)
  rw [nth_set (by rw [List.length_set]; exact hc), nth_set hc, r1, r1, nth_set (by omega), if_neg (show ¬ (a.toNat = b.toNat) by omega), w64 (x := nth q b.toNat + 1) (by omega) (by omega), w64 (x := nth q a.toNat + 1) (by omega) (by omega)]
  by_cases c1 : b = (c : Int)
  · rw [if_pos (by omega), if_neg (by omega), if_pos c1, show b.toNat = c by omega]; omega
  · by_cases c2 : a = (c : Int)
    · rw [if_neg (by omega), if_pos (by omega), if_pos c2, if_neg c1, show a.toNat = c by omega]; omega
    · rw [if_neg (by omega), if_neg (by omega), if_neg c2, if_neg c1]; omega
theorem qFold_nth : ∀ (l : List S80) (q : List Int) (B : Int), (∀ e ∈ l, (0 ≤ e.f0 ∧ e.f0 < e.f1 ∧ e.f1 < q.length)) → (∀ j, j < q.length → 0 ≤ nth q j ∧ nth q j ≤ B) → B + l.length ≤ 900 → ∀ c, c < q.length → nth (qFold q l) c = nth q c + cnt l c := by
  intro l
  induction l with
  | nil => intro q B _ _ _ c _; rw [qFold, cnt]; omega
  | cons e l ih =>
    intro q B he hq hB c hc
    have h1 := he e (List.mem_cons_self ..)
    rw [List.length_cons] at hB
    have hs := fun (c : Nat) (hc : c < q.length) => qAdd_nth (q := q) (a := e.f0) (b := e.f1) (by omega) (by omega) (by omega) (fun j hj => by have := hq j hj; omega) hc
    rw [qFold, ih (qAdd q e.f0 e.f1) (B + 1) (fun x hx => by rw [qAdd_length]; exact he x (List.mem_cons_of_mem _ hx)) (fun j hj => by
      rw [qAdd_length] at hj
      rw [hs j hj]
      have := hq j hj
      split <;> split <;> omega) (by omega) c (by rw [qAdd_length]; exact hc), hs c hc, cnt]
    omega
theorem good_of_cut {q : List Int} {N S : List S80} {d : Nat} (hq : q.length = d + 3) (hd : d ≤ 9) (hw : ∀ j, j < q.length → i64 (nth q j)) (h : cut d q (namesTo (d + 3)) = some (N, [1, 1, 1])) (hS : Srt N S) :
    Good ((d + 3 : Nat) : Int) S = true ∧ quidOf ((d + 3 : Nat) : Int) S = q ∧ ∀ j, j < q.length → 1 ≤ nth q j ∧ nth q j ≤ 10 := by
  obtain ⟨g1, g2, g3⟩ := cut_geo d q (namesTo (d + 3)) N _ hq (namesTo_length _) (namesTo_inc _) h
  have gv := cut_val d q (namesTo (d + 3)) N hq (namesTo_length _) (namesTo_inc _) hd hw h
  have hlen : S.length = d := by rw [hS.1.length_eq, g1]
  have hd2 : ∀ e ∈ S, IsDiag ((d + 3 : Nat) : Int) e.f0 e.f1 := by
    intro e he
    obtain ⟨⟨a1, a2⟩, ⟨u, hu, hu2⟩, ⟨v, hv, hv2⟩⟩ := g2 e (hS.1.mem_iff.1 he)
    have b1 := namesTo_mem a1
    have b2 := namesTo_mem a2
    have b3 := namesTo_mem hu
    have b4 := namesTo_mem hv
    unfold IsDiag
    omega
  have hp : S.Pairwise fun a b => ¬ Cross a.f0 a.f1 b.f0 b.f1 ∧ a ≠ b := by
    refine (hS.1.pairwise_iff ?_).2 g3
    rintro x y ⟨h1, h2⟩
    exact ⟨by unfold Cross at *; omega, fun e => h2 e.symm⟩
  have hltN : ∀ e ∈ N, e.f0 < e.f1 := by
    intro e he
    obtain ⟨_, ⟨u, _, hu⟩, _⟩ := g2 e he
    omega
  refine ⟨(good_iff _ _).2 ⟨by omega, by omega, fun j hj => ?_⟩, ?_, fun j hj => ?_⟩
  · unfold okAt
    rw [Bool.and_eq_true, Bool.and_eq_true]
    refine ⟨⟨decide_eq_true ?_, ?_⟩, ?_⟩
    · rw [rdT_nat hj]
      exact hd2 _ (List.getElem_mem hj)
    · by_cases h0 : j = 0
      · rw [decide_eq_true h0]; rfl
      · rw [decide_eq_false h0, Bool.false_or, show (j : Int) - 1 = ((j - 1 : Nat) : Int) by omega, rdT_nat hj, rdT_nat (by omega)]
        exact le_ne_less (List.pairwise_iff_getElem.1 hS.2 _ _ _ _ (by omega)) (List.pairwise_iff_getElem.1 hp _ _ _ _ (by omega)).2
    · rw [Bool.not_eq_true', List.any_eq_false]
      intro e he
      rw [decide_eq_true_eq]
      obtain ⟨i, hi, rfl⟩ := List.mem_iff_getElem.1 he
      rw [List.length_take] at hi
      rw [List.getElem_take, rdT_nat hj]
      have := (List.pairwise_iff_getElem.1 hp i j (by omega) hj (by omega)).1
      unfold Cross at *
      omega
  · apply nth_ext
    · rw [quidOf_length, hq]; omega
    · intro i hi
      rw [quidOf_length] at hi
      have h1 : ∀ j, j < (List.replicate (((d + 3 : Nat) : Int).toNat) (1 : Int)).length → nth (List.replicate (((d + 3 : Nat) : Int).toNat) (1 : Int)) j = 1 := by
        intro j hj
        rw [nth_get hj, List.getElem_replicate]
      have h2 := qFold_nth S (List.replicate (((d + 3 : Nat) : Int).toNat) (1 : Int)) 1 (fun e he => by
        have := hd2 e he
        unfold IsDiag at this
        rw [List.length_replicate]
        omega) (fun j hj => by rw [h1 j hj]; omega) (by omega) i (by rw [List.length_replicate]; exact hi)
      rw [quidOf, h2, h1 i (by rw [List.length_replicate]; exact hi), cnt_perm hS.1, gv i (by omega), namesTo_nth _ _ (by omega)]
  · have := gv j (by omega)
    have hb := cnt_bound (nth (namesTo (d + 3)) j) N hltN
    omega

def insS : List S80 → S80 → List S80
  | [], d => [d]
  | x :: l, d => if lessD x.f0 x.f1 d.f0 d.f1 = true then x :: insS l d else d :: x :: l
theorem insS_perm (d : S80) : ∀ l, (insS l d).Perm (d :: l)
  | [] => List.Perm.refl _
  | x :: l => by
    rw [insS]
    split
    · exact ((insS_perm d l).cons x).trans (List.Perm.swap ..)
    · exact List.Perm.refl _
theorem insS_sorted (d : S80) : ∀ l : List S80, l.Pairwise leD → (insS l d).Pairwise leD
  | [], _ => List.pairwise_singleton _ _
  | x :: l, h => by
    obtain ⟨h1, h2⟩ := List.pairwise_cons.1 h
    rw [insS]
    split
    · next c =>
      refine List.pairwise_cons.2 ⟨fun a ha => ?_, insS_sorted d l h2⟩
      rcases List.mem_cons.1 ((insS_perm d l).mem_iff.1 ha) with rfl | ha
      · exact less_le c
      · exact h1 a ha
    · next c =>
      have hdx : leD d x := nless_le (by simpa using c)
      refine List.pairwise_cons.2 ⟨fun a ha => ?_, h⟩
      rcases List.mem_cons.1 ha with rfl | ha
      · exact hdx
      · exact leD_trans hdx (h1 a ha)
theorem insS_length (d : S80) (l : List S80) : (insS l d).length = l.length + 1 := (insS_perm d l).length_eq
theorem poSorted_l1 (x8 : List S80) (L i : Int) (d0 d1 : Int) (r : List S80) (x3 : List S80) (hl : x3.length ≤ 1000) (K : Nat) : ∀ (dd k p : Nat), p + dd = x3.length → K + dd + 1 ≤ k →
    (∀ m, K ≤ m → spec_poSorted.l0 m (x3.take p ++ insS (x3.drop p) ⟨d0, d1⟩) x8 L (wrap64 (i + 1)) = some r) → spec_poSorted.l1 k x3 (p : Int) x8 L i d0 d1 = some r := by
  intro dd
  induction dd with
  | zero =>
    intro k p hp hk h
    obtain ⟨k, rfl⟩ : ∃ m, k = m + 1 := ⟨k - 1, by omega⟩
    simp only [spec_poSorted.l1]
    have hh := h k (by omega)
    rw [List.drop_of_length_le (by omega), insS, List.take_of_length_le (by omega)] at hh
    rw [if_neg (by omega), Option.bind_some, if_pos (by omega), if_pos (by omega), Option.bind_some, Int.toNat_natCast, List.take_of_length_le (by omega), if_pos (by simp; omega), Option.bind_some, Option.bind_some, if_pos (by simp; omega), Option.bind_some, List.drop_of_length_le (by omega), Option.bind_some, if_pos (by simp; omega), List.nil_append, List.append_nil]
    exact hh
  | succ dd ih =>
    intro k p hp hk h
    obtain ⟨k, rfl⟩ : ∃ m, k = m + 1 := ⟨k - 1, by omega⟩
    simp only [spec_poSorted.l1]
    rw [if_pos (by omega), if_pos (by omega), poLess_eq, Option.bind_some]
    cases hc : lessD (rd_T80 x3 p).f0 (rd_T80 x3 p).f1 d0 d1 with
    | true =>
      rw [if_pos rfl, wsucc (n := x3.length) (by omega) (by omega)]
      refine ih k (p + 1) (by omega) (by omega) (fun m hm => ?_)
      have hh := h m hm
      rw [rdT_drop (l := x3) (i := p) (by omega), insS, if_pos hc] at hh
      rw [List.take_succ_eq_append_getElem (by omega), List.append_assoc, ← rdT_nat (by omega)]
      exact hh
    | false =>
      have hh := h k (by omega)
      rw [rdT_drop (l := x3) (i := p) (by omega), insS, if_neg (by rw [hc]; decide), ← rdT_drop (by omega)] at hh
      have l1 : (x3.take p).length ≤ 1000 := by rw [List.length_take]; omega
      rw [if_neg (by decide), Option.bind_some, if_pos (by omega), Option.bind_some, Int.toNat_natCast, List.nil_append, if_pos (by simp; omega), Option.bind_some, Option.bind_some, if_pos (by simp; omega), Option.bind_some, Option.bind_some, if_pos (by simp; omega), List.append_assoc, List.singleton_append]
      exact hh
theorem poSorted_l0 (x8 : List S80) (hl : x8.length ≤ 100) : ∀ (dd k i : Nat) (x3 : List S80), i + dd = x8.length → 104 * dd + 1 ≤ k → Srt (x8.take i) x3 →
    ∃ S, Srt x8 S ∧ spec_poSorted.l0 k x3 x8 (x8.length : Int) (i : Int) = some S := by
  intro dd
  induction dd with
  | zero =>
    intro k i x3 hi hk hS
    obtain ⟨k, rfl⟩ : ∃ m, k = m + 1 := ⟨k - 1, by omega⟩
    simp only [spec_poSorted.l0]
    rw [if_neg (by omega)]
    rw [List.take_of_length_le (by omega)] at hS
    exact ⟨x3, hS, rfl⟩
  | succ dd ih =>
    intro k i x3 hi hk hS
    obtain ⟨k, rfl⟩ : ∃ m, k = m + 1 := ⟨k - 1, by omega⟩
    have h3 : x3.length = i := by rw [hS.1.length_eq, List.length_take]; omega
    have hS2 : Srt (x8.take (i + 1)) (insS x3 (rd_T80 x8 i)) := by
      refine ⟨(insS_perm _ _).trans ?_, insS_sorted _ _ hS.2⟩
      rw [List.take_succ_eq_append_getElem (by omega), rdT_nat (by omega)]
      exact (hS.1.cons _).trans (List.perm_append_singleton _ _).symm
    obtain ⟨S, hSS, _⟩ := ih (104 * dd + 1) (i + 1) _ (by omega) (Nat.le_refl _) hS2
    refine ⟨S, hSS, ?_⟩
    simp only [spec_poSorted.l0]
    rw [if_pos (by omega), if_pos (by omega), if_pos (by omega), ← Int.natCast_zero]
    refine poSorted_l1 x8 _ _ _ _ S x3 (by omega) (104 * dd + 1) x3.length k 0 (by omega) (by omega) (fun m hm => ?_)
    obtain ⟨S', hS', h'⟩ := ih m (i + 1) _ (by omega) hm hS2
    rw [hSS.unique hS', wsucc (n := x8.length) (by omega) (by omega), List.take_zero, List.nil_append, List.drop_zero]
    exact h'
theorem poSorted_eq {l : List S80} (hl : l.length ≤ 10) : ∃ S, Srt l S ∧ ∀ k, 2000 ≤ k → spec_poSorted.f k l = some S := by
  have h0 : ∀ k, 2000 ≤ k → ∃ S, Srt l S ∧ spec_poSorted.f k l = some S := by
    intro k hk
    unfold spec_poSorted.f
    rw [← Int.natCast_zero]
    exact poSorted_l0 l (by omega) l.length k 0 [] (by omega) (by omega) ⟨by simp, List.Pairwise.nil⟩
  obtain ⟨S, hS, _⟩ := h0 2000 (Nat.le_refl _)
  refine ⟨S, hS, fun k hk => ?_⟩
  obtain ⟨S', hS', h'⟩ := h0 k hk
  rw [hS.unique hS']
  exact h'

theorem tmod_nat (a m : Nat) : Int.tmod (a : Int) (m : Int) = ((a % m : Nat) : Int) := (Int.ofNat_tmod a m).symm
theorem bef_w {i m : Nat} (h : i < m) (hm : m ≤ 1000) : Int.tmod (wrap64 ((wrap64 ((i : Int) + (m : Int))) - 1)) (m : Int) = ((bef i m : Nat) : Int) := by
  rw [w64 (x := (i : Int) + m) (by omega) (by omega), w64 (by omega) (by omega), show (i : Int) + m - 1 = ((i + m - 1 : Nat) : Int) by omega, tmod_nat]
  rfl
theorem beh_w {i m : Nat} (h : i < m) (hm : m ≤ 1000) : Int.tmod (wrap64 ((i : Int) + 1)) (m : Int) = ((beh i m : Nat) : Int) := by
  rw [w64 (by omega) (by omega), show (i : Int) + 1 = ((i + 1 : Nat) : Int) by omega, tmod_nat]
  rfl
def firstFrom (l : List Int) : Nat → Nat → Int
  | 0, _ => -1
  | d + 1, p => if nth l p = 1 then (p : Int) else firstFrom l d (p + 1)
theorem firstFrom_spec (l : List Int) : ∀ (d p : Nat), (firstFrom l d p = -1 ∧ ∀ j, p ≤ j → j < p + d → nth l j ≠ 1) ∨ ∃ i : Nat, firstFrom l d p = i ∧ p ≤ i ∧ i < p + d ∧ nth l i = 1 ∧ ∀ j, p ≤ j → j < i → nth l j ≠ 1 := by
  intro d
  induction d with
  | zero => intro p; exact Or.inl ⟨rfl, fun j h1 h2 => by omega⟩
  | succ d ih =>
    intro p
    rw [firstFrom]
    by_cases h : nth l p = 1
    · rw [if_pos h]
      exact Or.inr ⟨p, rfl, Nat.le_refl _, by omega, h, fun j h1 h2 => by omega⟩
    · rw [if_neg h]
      rcases ih (p + 1) with ⟨h1, h2⟩ | ⟨i, h1, h2, h3, h4, h5⟩
      · refine Or.inl ⟨h1, fun j g1 g2 => ?_⟩
        by_cases e : j = p
        · rw [e]; exact h
        · exact h2 j (by omega) (by omega)
      · refine Or.inr ⟨i, h1, by omega, by omega, h4, fun j g1 g2 => ?_⟩
        by_cases e : j = p
        · rw [e]; exact h
        · exact h5 j (by omega) g2
theorem first_cases (l : List Int) : (firstFrom l l.length 0 = -1 ∧ l.findIdx? (· == 1) = none) ∨ ∃ i : Nat, firstFrom l l.length 0 = i ∧ i < l.length ∧ l.findIdx? (· == 1) = some i := by
  rcases firstFrom_spec l l.length 0 with ⟨h1, h2⟩ | ⟨i, h1, _, h3, h4, h5⟩
  · refine Or.inl ⟨h1, List.findIdx?_eq_none_iff.2 fun x hx => ?_⟩
    obtain ⟨j, hj, rfl⟩ := mem_nth.1 hx
    have := h2 j (by omega) (by omega)
    simpa using this
  · refine Or.inr ⟨i, h1, by omega, List.findIdx?_eq_some_iff_getElem.2 ⟨by omega, ?_, fun j hj => ?_⟩⟩
    · rw [← nth_get (by omega), h4]; rfl
    · rw [← nth_get (by omega)]
      have := h5 j (by omega) hj
      simpa using this
theorem find_l2 (left names : List Int) (out : List S80) (hm : left.length ≤ 1000) : ∀ (dd k p : Nat) (x8 : Int), p + dd = left.length →
    spec_poOf.l2 (k + dd) left names out x8 left (left.length : Int) (p : Int) = spec_poOf.l2 k left names out (if x8 < 0 then (if firstFrom left dd p < 0 then x8 else firstFrom left dd p) else x8) left (left.length : Int) (left.length : Int) := by
  intro dd
  induction dd with
  | zero =>
    intro k p x8 hp
    rw [firstFrom, show p = left.length by omega, Nat.add_zero]
    simp
  | succ dd ih =>
    intro k p x8 hp
    obtain ⟨q, hq⟩ : ∃ q, q = k + dd := ⟨_, rfl⟩
    rw [show k + (dd + 1) = q + 1 by omega, firstFrom]
    conv => lhs; simp only [spec_poOf.l2]
    rw [if_pos (by omega), if_pos (by omega), if_pos (by omega), rd_nth, wsucc (n := left.length) (by omega) (by omega), hq]
    by_cases h : nth left p = 1
    · rw [if_pos h, if_pos h]
      by_cases h8 : x8 < 0
      · rw [if_pos h8, if_pos h8, ih _ _ _ (by omega), if_neg (show ¬ ((p : Int) < 0) by omega), if_neg (show ¬ ((p : Int) < 0) by omega)]
      · rw [if_neg h8, if_neg h8, ih _ _ _ (by omega), if_neg h8]
    · rw [if_neg h, if_neg h, ih _ _ _ (by omega)]
theorem own_eq {l : List Int} (h : l.length ≤ 1000000) : spec_l1Own.f l = some l := by
  unfold spec_l1Own.f
  rw [Option.bind_some, if_pos (by simp; omega)]
  rfl
theorem poOf_step (left names : List Int) (out : List S80) (i k : Nat) (hi : i < left.length) (hm : 4 ≤ left.length ∧ left.length ≤ 12) (hn : names.length = left.length) (ho : out.length ≤ 1000) :
    spec_poOf.l2 (k + 2) left names out (i : Int) left (left.length : Int) (left.length : Int) =
      if nth (dec1 (dec1 left (bef i left.length)) (beh i left.length)) (bef i left.length) < 1 ∨ nth (dec1 (dec1 left (bef i left.length)) (beh i left.length)) (beh i left.length) < 1 then some ([], false)
      else spec_poOf.l1 k (stepL left i) (names.eraseIdx i) (out ++ [cutD names i]) := by
  have hb := bef_ne_beh hi (by omega)
  have j4 : ∀ (L : List Int) (b : Bool), L.length = left.length → spec_poOf.j4 (k + 1) L names out (i : Int) (bef i left.length : Nat) (beh i left.length : Nat) b = if b = true then some ([], false) else spec_poOf.l1 k (L.eraseIdx i) (names.eraseIdx i) (out ++ [cutD names i]) := by
    intro L b hL
    simp only [spec_poOf.j4]
    cases b with
    | true => rw [if_pos rfl, if_pos rfl]
    | false =>
      have e1 : ∀ a b : Int, spec_l1Least.f a b = some (min a b) := by
        intro a b
        unfold spec_l1Least.f
        split
        · rw [Int.min_eq_left (by omega)]
        · rw [Int.min_eq_right (by omega)]
      have e2 : ∀ a b : Int, spec_l1Most.f a b = some (max a b) := by
        intro a b
        unfold spec_l1Most.f
        split
        · rw [Int.max_eq_left (by omega)]
        · rw [Int.max_eq_right (by omega)]
      simp only [Bool.false_eq_true, if_false]
      rw [if_pos (by omega), if_pos (by omega), if_pos (by omega), if_pos (by omega), rd_nth, rd_nth, e1, e2, Option.bind_some, Option.bind_some, if_pos (by omega), if_pos (by omega), if_pos (by omega), Int.toNat_natCast,
        own_eq (by rw [List.length_take]; omega), Option.bind_some, wsucc (n := left.length) hi (by omega), if_pos (by omega), if_pos (by omega), Option.bind_some, Int.toNat_natCast, if_pos (by rw [List.length_take, List.length_drop]; omega), if_pos (by omega),
        own_eq (by rw [List.length_take]; omega), Option.bind_some, if_pos (by omega), Option.bind_some, if_pos (by rw [List.length_take, List.length_drop]; omega), ← List.eraseIdx_eq_take_drop_succ, ← List.eraseIdx_eq_take_drop_succ]
      unfold cutD
      rw [hn]
  rw [show k + 2 = (k + 1) + 1 by omega]
  conv => lhs; simp only [spec_poOf.l2]
  rw [if_neg (by omega), if_neg (by omega), if_neg (by omega), bef_w hi (by omega), beh_w hi (by omega), if_pos (by omega), if_pos (by omega), Option.bind_some, if_pos (by omega), if_pos (by omega), Option.bind_some]
  simp only [rd_nth, Int.toNat_natCast]
  change (if nth (dec1 (dec1 left (bef i left.length)) (beh i left.length)) (bef i left.length) < 1 then _ else _) = _
  have hL : (dec1 (dec1 left (bef i left.length)) (beh i left.length)).length = left.length := by rw [dec1_length, dec1_length]
  have jA := j4 (dec1 (dec1 left (bef i left.length)) (beh i left.length)) true hL
  have jB := j4 (dec1 (dec1 left (bef i left.length)) (beh i left.length)) (decide (nth (dec1 (dec1 left (bef i left.length)) (beh i left.length)) (beh i left.length) < 1)) hL
  by_cases c1 : nth (dec1 (dec1 left (bef i left.length)) (beh i left.length)) (bef i left.length) < 1
  · rw [if_pos c1, if_pos (Or.inl c1)]
    exact jA.trans (if_pos rfl)
  · rw [if_neg c1]
    refine jB.trans ?_
    by_cases c2 : nth (dec1 (dec1 left (bef i left.length)) (beh i left.length)) (beh i left.length) < 1
    · rw [decide_eq_true c2, if_pos rfl, if_pos (Or.inr c2)]
    · rw [decide_eq_false c2, if_neg (by decide), if_neg (by omega)]
      rfl

theorem wrap_le {x : Int} (h : i64 x) : i64 x := h
theorem upd_eq {left : List Int} {i j : Nat} (hi : i < left.length) (hm : 3 ≤ left.length) (hj : j < left.length) : nth (dec1 (dec1 left (bef i left.length)) (beh i left.length)) j = upd left i j := by
  have h := bef_ne_beh hi hm
  unfold dec1 upd
  rw [nth_set (by rw [List.length_set]; exact hj), nth_set hj, nth_set h.2.2.1, if_neg h.1]
  by_cases e1 : beh i left.length = j
  · rw [if_pos e1, if_pos (Or.inr e1.symm), e1]
  · rw [if_neg e1]
    by_cases e2 : bef i left.length = j
    · rw [if_pos e2, if_pos (Or.inl e2.symm), e2]
    · rw [if_neg e2, if_neg (by omega)]
/-- What is left at a corner is at least one, as long as the cutting comes to its end. -/
theorem step_pos {d : Nat} {left names : List Int} {i : Nat} {N : List S80} (hl : left.length = d + 4) (hn : names.length = d + 4) (hI : Inc names) (hd : d ≤ 8) (hw : ∀ j, j < left.length → i64 (nth left j)) (hi : i < left.length)
    (h : cut d (stepL left i) (names.eraseIdx i) = some (N, [1, 1, 1])) {j : Nat} (hj : j < left.length) (hji : j ≠ i) : 1 ≤ upd left i j := by
  have hin : i < names.length := by omega
  have hs : (stepL left i).length = d + 3 := by rw [stepL_length hi]; omega
  have he : (names.eraseIdx i).length = d + 3 := by rw [List.length_eraseIdx, if_pos hin]; omega
  have gg := cut_geo d (stepL left i) (names.eraseIdx i) N _ hs he (hI.erase hin) h
  have gv := cut_val d (stepL left i) (names.eraseIdx i) N hs he (hI.erase hin) (by omega) (stepL_i64 hi (by omega) hw) h (if j < i then j else j - 1) (by split <;> omega)
  have hJ : (if (if j < i then j else j - 1) < i then (if j < i then j else j - 1) else (if j < i then j else j - 1) + 1) = j := by
    by_cases c : j < i
    · rw [if_pos c, if_pos c]
    · rw [if_neg c, if_neg (by omega)]; omega
  rw [stepL_nth hi (by omega) (by split <;> omega), hJ] at gv
  have hlt : ∀ e ∈ N, e.f0 < e.f1 := by
    intro e he2
    obtain ⟨_, ⟨u, _, hu⟩, _⟩ := gg.2.1 e he2
    omega
  have := cnt_bound (nth (names.eraseIdx i) (if j < i then j else j - 1)) N hlt
  omega
theorem three {l : List Int} (h : l.length = 3) : l = [nth l 0, nth l 1, nth l 2] := by
  match l, h with
  | [a, b, c], _ => rfl
theorem poOf_l1 : ∀ (d k : Nat) (left names : List Int) (out : List S80), left.length = d + 3 → names.length = d + 3 → Inc names → d ≤ 9 → (∀ j, j < left.length → i64 (nth left j)) → out.length + d ≤ 10 → 2001 + 20 * d ≤ k →
    ∃ X, spec_poOf.l1 k left names out = some X ∧ (∀ N, cut d left names = some (N, [1, 1, 1]) → Srt (out ++ N) X.1 ∧ X.2 = true) ∧ ((∀ N, cut d left names ≠ some (N, [1, 1, 1])) → X.2 = false) := by
  intro d
  induction d with
  | zero =>
    intro k left names out hl hn hI hd hw ho hk
    obtain ⟨k, rfl⟩ : ∃ m, k = m + 1 := ⟨k - 1, by omega⟩
    obtain ⟨S, hS, hS2⟩ := poSorted_eq (l := out) (by omega)
    simp only [spec_poOf.l1]
    rw [if_neg (by omega), hS2 k (by omega), Option.bind_some, if_pos (by omega), show rd left 0 = nth left 0 from rfl, show rd left 1 = nth left 1 from rfl, show rd left 2 = nth left 2 from rfl]
    have h3 := three hl
    by_cases c0 : nth left 0 = 1
    · rw [if_pos c0, if_pos (by omega)]
      by_cases c1 : nth left 1 = 1
      · rw [if_pos c1, if_pos (by omega)]
        refine ⟨_, rfl, fun N hN => ?_, fun hN => ?_⟩
        · rw [cut] at hN
          obtain ⟨rfl, h5⟩ := Prod.mk.inj (Option.some.inj hN)
          rw [List.append_nil]
          exact ⟨hS, by rw [h5]; rfl⟩
        · by_cases c2 : nth left 2 = 1
          · rw [c0, c1, c2] at h3
            exact absurd (show cut 0 left names = some ([], [1, 1, 1]) by rw [cut, h3]) (hN [])
          · exact beq_eq_false_iff_ne.2 c2
      · rw [if_neg c1]
        refine ⟨_, rfl, fun N hN => ?_, fun hN => rfl⟩
        rw [cut] at hN
        obtain ⟨rfl, h5⟩ := Prod.mk.inj (Option.some.inj hN)
        rw [h5] at c1
        exact absurd rfl c1
    · rw [if_neg c0]
      refine ⟨_, rfl, fun N hN => ?_, fun hN => rfl⟩
      rw [cut] at hN
      obtain ⟨rfl, h5⟩ := Prod.mk.inj (Option.some.inj hN)
      rw [h5] at c0
      exact absurd rfl c0
  | succ d ih =>
    intro k left names out hl hn hI hd hw ho hk
    obtain ⟨k, rfl⟩ : ∃ m, k = m + 1 := ⟨k - 1, by omega⟩
    simp only [spec_poOf.l1]
    obtain ⟨m, hm⟩ : ∃ m, k = (m + 2) + left.length := ⟨k - left.length - 2, by omega⟩
    have hf := find_l2 left names out (by omega) left.length (m + 2) 0 (-1) (by omega)
    rw [if_pos (show (-1 : Int) < 0 by omega), Int.natCast_zero] at hf
    rw [if_pos (by omega), hm, hf]
    rcases first_cases left with ⟨h1, h2⟩ | ⟨i, h1, hi, h2⟩
    · rw [h1, if_pos (by omega)]
      refine ⟨([], false), ?_, fun N hN => ?_, fun _ => rfl⟩
      · simp only [spec_poOf.l2]
        rw [if_neg (by omega), if_pos (by omega)]
      · rw [cut, h2] at hN
        cases hN
    · rw [h1, if_neg (by omega), poOf_step left names out i m hi (by omega) (by omega) (by omega)]
      have hin : i < names.length := by omega
      have hb := bef_ne_beh hi (by omega)
      have hc : ∀ N, cut (d + 1) left names = some (N, [1, 1, 1]) → ∃ N', cut d (stepL left i) (names.eraseIdx i) = some (N', [1, 1, 1]) ∧ N = cutD names i :: N' := by
        intro N hN
        obtain ⟨i', N', _, _, h5, h6, h7⟩ := cut_some hN
        rw [h2] at h5
        obtain rfl := Option.some.inj h5
        exact ⟨N', h6, h7⟩
      rw [upd_eq hi (by omega) hb.2.1, upd_eq hi (by omega) hb.2.2.1]
      by_cases hlow : upd left i (bef i left.length) < 1 ∨ upd left i (beh i left.length) < 1
      · rw [if_pos hlow]
        refine ⟨_, rfl, fun N hN => ?_, fun _ => rfl⟩
        obtain ⟨N', h6, _⟩ := hc N hN
        have p1 := step_pos (by omega) (by omega) hI (by omega) hw hi h6 hb.2.1 hb.2.2.2.1
        have p2 := step_pos (by omega) (by omega) hI (by omega) hw hi h6 hb.2.2.1 hb.2.2.2.2
        omega
      · rw [if_neg hlow]
        obtain ⟨X, hX, hA, hB⟩ := ih m (stepL left i) (names.eraseIdx i) (out ++ [cutD names i]) (by rw [stepL_length hi]; omega) (by rw [List.length_eraseIdx, if_pos hin]; omega) (hI.erase hin) (by omega) (stepL_i64 hi (by omega) hw) (by rw [List.length_append, List.length_singleton]; omega) (by omega)
        refine ⟨X, hX, fun N hN => ?_, fun hN => hB fun N' hN' => ?_⟩
        · obtain ⟨N', h6, rfl⟩ := hc N hN
          have := hA N' h6
          rwa [List.append_assoc, List.singleton_append] at this
        · refine hN (cutD names i :: N') ?_
          rw [cut, h2]
          simp only
          rw [hN']
          rfl
theorem poOf_l0 (left : List Int) (hl : left.length ≤ 1000) : ∀ (d k i : Nat), i + d = left.length → spec_poOf.l0 (k + d + 1) left (namesTo i) (left.length : Int) (i : Int) = spec_poOf.l1 k left (namesTo left.length) [] := by
  intro d
  induction d with
  | zero =>
    intro k i hi
    simp only [spec_poOf.l0]
    rw [if_neg (by omega), show i = left.length by omega]
  | succ d ih =>
    intro k i hi
    obtain ⟨q, hq⟩ : ∃ q, q = k + d + 1 := ⟨_, rfl⟩
    rw [show k + (d + 1) + 1 = q + 1 by omega]
    simp only [spec_poOf.l0]
    rw [if_pos (by omega), if_pos (by rw [namesTo_length]; omega), wsucc (n := left.length) (by omega) (by omega), hq]
    exact ih k (i + 1) (by omega)
/-- The quiddities, by the cutting alone. -/
def isQuid (q : List Int) (S : List S80) : Prop := ∃ d N, q.length = d + 3 ∧ d ≤ 9 ∧ cut d q (namesTo (d + 3)) = some (N, [1, 1, 1]) ∧ Srt N S
theorem inAll_nth {lo hi : Int} {l : List Int} : inAll lo hi l = true ↔ ∀ j, j < l.length → lo ≤ nth l j ∧ nth l j ≤ hi := by
  unfold inAll
  rw [List.all_eq_true]
  constructor
  · intro h j hj
    have := h (nth l j) (mem_nth.2 ⟨j, hj, rfl⟩)
    simpa using this
  · intro h x hx
    obtain ⟨j, hj, rfl⟩ := mem_nth.1 hx
    have := h j hj
    simpa using this
theorem srt_ex (l : List S80) (hl : l.length ≤ 10) : ∃ S, Srt l S := by
  obtain ⟨S, hS, _⟩ := poSorted_eq hl
  exact ⟨S, hS⟩
theorem poOf_eq {q : List Int} (hq : q.length ≤ 1048576) (hw : ∀ j, j < q.length → i64 (nth q j)) {k : Nat} (hk : q.length + 2300 ≤ k) :
    ∃ X, spec_poOf.f k q = some X ∧ ((∃ S, isQuid q S) → isQuid q X.1 ∧ X.2 = true) ∧ ((¬ ∃ S, isQuid q S) → X.2 = false) := by
  unfold spec_poOf.f
  rw [poIs_eq, Option.bind_some]
  obtain ⟨k, rfl⟩ : ∃ m, k = m + 1 := ⟨k - 1, by omega⟩
  by_cases hn : 3 ≤ (q.length : Int) ∧ (q.length : Int) ≤ 12
  · obtain ⟨d, hd⟩ : ∃ d, q.length = d + 3 := ⟨q.length - 3, by omega⟩
    rw [decide_eq_true hn, ite_t, l1All_eq _ _ (by omega) (by omega), Option.bind_some]
    simp only [spec_poOf.j0]
    cases hall : inAll 1 12 q with
    | false =>
      refine ⟨([], false), rfl, fun ⟨S, d', N, h1, h2, h3, h4⟩ => ?_, fun _ => rfl⟩
      have := (good_of_cut h1 h2 hw h3 h4).2.2
      have h5 : inAll 1 12 q = true := inAll_nth.2 fun j hj => by have := this j hj; omega
      rw [hall] at h5
      cases h5
    | true =>
      rw [Bool.not_true, ite_f, own_eq (by omega), Option.bind_some]
      obtain ⟨m, hm⟩ : ∃ m, k = m + q.length + 1 := ⟨k - q.length - 1, by omega⟩
      have h0 := poOf_l0 q (by omega) q.length m 0 (by omega)
      rw [Int.natCast_zero, show namesTo 0 = [] from rfl] at h0
      rw [hm, h0]
      obtain ⟨X, hX, hA, hB⟩ := poOf_l1 d m q (namesTo q.length) [] hd (by rw [namesTo_length]; exact hd) (namesTo_inc _) (by omega) hw (by simp; omega) (by omega)
      rw [hd] at hA hB
      refine ⟨X, hX, fun ⟨S, d', N, h1, h2, h3, h4⟩ => ?_, fun hno => hB fun N hN => hno ?_⟩
      · obtain rfl : d = d' := by omega
        have := hA N h3
        rw [List.nil_append] at this
        exact ⟨⟨d, N, h1, h2, h3, this.1⟩, this.2⟩
      · have hlen := (cut_geo d q (namesTo (d + 3)) N _ hd (namesTo_length _) (namesTo_inc _) hN).1
        obtain ⟨S, hS⟩ := srt_ex N (by omega)
        exact ⟨S, d, N, hd, by omega, hN, hS⟩
  · rw [decide_eq_false hn, ite_f]
    simp only [spec_poOf.j0]
    refine ⟨([], false), rfl, fun ⟨S, d', N, h1, h2, h3, h4⟩ => ?_, fun _ => rfl⟩
    omega
theorem isQuid.unique {q : List Int} {S S' : List S80} (h : isQuid q S) (h' : isQuid q S') : S = S' := by
  obtain ⟨d, N, h1, h2, h3, h4⟩ := h
  obtain ⟨d', N', g1, g2, g3, g4⟩ := h'
  obtain rfl : d = d' := by omega
  rw [h3] at g3
  obtain ⟨rfl, _⟩ := Prod.mk.inj (Option.some.inj g3)
  exact h4.unique g4

def insR : List S80 → S80 → List S80
  | [], x => [x]
  | y :: R, x => if lessD x.f0 x.f1 y.f0 y.f1 = true then insR R x ++ [y] else (y :: R).reverse ++ [x]
theorem insR_perm (x : S80) : ∀ R, (insR R x).Perm (x :: R.reverse)
  | [] => List.Perm.refl _
  | y :: R => by
    rw [insR, List.reverse_cons]
    split
    · exact (insR_perm x R).append_right [y]
    · exact List.perm_append_singleton _ _
theorem insR_sorted (x : S80) : ∀ R : List S80, R.reverse.Pairwise leD → (insR R x).Pairwise leD
  | [], _ => List.pairwise_singleton _ _
  | y :: R, h => by
    rw [List.reverse_cons] at h
    obtain ⟨h1, _, h2⟩ := List.pairwise_append.1 h
    rw [insR, List.reverse_cons]
    split
    · next c =>
      refine List.pairwise_append.2 ⟨insR_sorted x R h1, List.pairwise_singleton _ _, fun a ha b hb => ?_⟩
      obtain rfl := List.mem_singleton.1 hb
      rcases List.mem_cons.1 ((insR_perm x R).mem_iff.1 ha) with rfl | ha
      · exact less_le c
      · exact h2 a ha _ (List.mem_singleton.2 rfl)
    · next c =>
      have hyx : leD y x := nless_le (by simpa using c)
      refine List.pairwise_append.2 ⟨h, List.pairwise_singleton _ _, fun a ha b hb => ?_⟩
      obtain rfl := List.mem_singleton.1 hb
      rcases List.mem_append.1 ha with ha | ha
      · exact leD_trans (h2 a ha y (List.mem_singleton.2 rfl)) hyx
      · obtain rfl := List.mem_singleton.1 ha; exact hyx
theorem swap_set (A : List S80) (y x : S80) (Q : List S80) : ((A ++ y :: x :: Q).set (A.length + 1) y).set A.length x = A ++ x :: y :: Q := by
  induction A with
  | nil => rfl
  | cons a A ih => simp only [List.cons_append, List.length_cons, List.set_cons_succ, ih]
theorem rdT_mid (A : List S80) (x : S80) (Q : List S80) : rd_T80 (A ++ x :: Q) (A.length : Int) = x := by
  rw [rdT_nat (by simp), List.getElem_append_right (Nat.le_refl _)]
  simp
theorem ins_l1 (L i : Int) (x : S80) (r : List S80) (K : Nat) : ∀ (R Q : List S80) (k : Nat), R.length ≤ 1000 → K + R.length + 6 ≤ k →
    (∀ m, K ≤ m → impl_Diagonal__at_impl_compareDiagonals_91.l0 m (insR R x ++ Q) 0 L (wrap64 (i + 1)) = some r) → impl_Diagonal__at_impl_compareDiagonals_91.l1 k (R.reverse ++ x :: Q) 0 L i (R.length : Int) = some r := by
  intro R
  induction R with
  | nil =>
    intro Q k _ hk h
    obtain ⟨k, rfl⟩ : ∃ m, k = m + 1 := ⟨k - 1, by omega⟩
    simp only [impl_Diagonal__at_impl_compareDiagonals_91.l1]
    rw [if_neg (by simp)]
    exact h k (by omega)
  | cons y R ih =>
    intro Q k hR hk h
    obtain ⟨k, rfl⟩ : ∃ m, k = m + 1 := ⟨k - 1, by omega⟩
    rw [List.length_cons] at hR hk
    have hw : wrap64 (((R.length + 1 : Nat) : Int) - 1) = (R.length : Int) := by rw [w64 (by omega) (by omega)]; omega
    have eL : ((y :: R).reverse ++ x :: Q) = R.reverse ++ y :: x :: Q := by rw [List.reverse_cons, List.append_assoc]; rfl
    have r1 : rd_T80 (R.reverse ++ y :: x :: Q) ((R.length + 1 : Nat) : Int) = x := by
      have := rdT_mid (R.reverse ++ [y]) x Q
      rw [List.length_append, List.length_reverse, List.append_assoc] at this
      exact this
    have r2 : rd_T80 (R.reverse ++ y :: x :: Q) (R.length : Int) = y := by
      have := rdT_mid R.reverse y (x :: Q)
      rwa [List.length_reverse] at this
    obtain ⟨t, ht, _, ht2, _⟩ := cmpD_eq (k := k) (by omega) x.f0 x.f1 y.f0 y.f1
    have ll : ((R.reverse ++ y :: x :: Q).length : Int) = R.length + (Q.length + 2) := by simp; omega
    rw [eL, List.length_cons]
    simp only [impl_Diagonal__at_impl_compareDiagonals_91.l1]
    rw [hw, r1, r2, ht, Option.bind_some, if_pos (by omega), if_pos (by omega), if_pos (by omega), if_pos (by omega), if_pos (by omega)]
    by_cases hc : t < 0
    · have sw := swap_set R.reverse y x Q
      rw [List.length_reverse] at sw
      rw [if_pos hc, Int.toNat_natCast, Int.toNat_natCast, sw]
      refine ih (y :: Q) k (by omega) (by omega) (fun m hm => ?_)
      have hh := h m hm
      rw [insR, if_pos (ht2.1 hc), List.append_assoc, List.singleton_append] at hh
      exact hh
    · rw [if_neg hc]
      have hh := h k (by omega)
      rw [insR, if_neg (fun e => hc (ht2.2 e)), List.append_assoc, List.singleton_append, eL] at hh
      exact hh
theorem ins_l0 (l : List S80) (hl : l.length ≤ 100) : ∀ (Q : List S80) (k : Nat) (A : List S80), A.length + Q.length = l.length → 110 * Q.length + 1 ≤ k → A.Pairwise leD → (A ++ Q).Perm l →
    ∃ S, Srt l S ∧ impl_Diagonal__at_impl_compareDiagonals_91.l0 k (A ++ Q) 0 (l.length : Int) (A.length : Int) = some S := by
  intro Q
  induction Q with
  | nil =>
    intro k A hA hk hS hP
    obtain ⟨k, rfl⟩ : ∃ m, k = m + 1 := ⟨k - 1, by omega⟩
    simp only [impl_Diagonal__at_impl_compareDiagonals_91.l0]
    rw [List.length_nil] at hA
    rw [if_neg (by omega), List.append_nil]
    rw [List.append_nil] at hP
    exact ⟨A, ⟨hP, hS⟩, rfl⟩
  | cons x Q ih =>
    intro k A hA hk hS hP
    obtain ⟨k, rfl⟩ : ∃ m, k = m + 1 := ⟨k - 1, by omega⟩
    rw [List.length_cons] at hA hk
    have hp := insR_perm x A.reverse
    rw [List.reverse_reverse] at hp
    have hs := insR_sorted x A.reverse (by rw [List.reverse_reverse]; exact hS)
    have hlen : (insR A.reverse x).length = A.length + 1 := by rw [hp.length_eq]; rfl
    have hP2 : (insR A.reverse x ++ Q).Perm l := by
      refine List.Perm.trans ?_ hP
      refine (hp.append_right Q).trans ?_
      exact List.perm_middle.symm
    obtain ⟨S, hSS, _⟩ := ih (110 * Q.length + 1) (insR A.reverse x) (by omega) (Nat.le_refl _) hs hP2
    refine ⟨S, hSS, ?_⟩
    simp only [impl_Diagonal__at_impl_compareDiagonals_91.l0]
    rw [if_pos (by omega)]
    have h1 := ins_l1 (l.length : Int) (A.length : Int) x S (110 * Q.length + 1) A.reverse Q k (by rw [List.length_reverse]; omega) (by rw [List.length_reverse]; omega) (fun m hm => by
      obtain ⟨S', hS', h'⟩ := ih m (insR A.reverse x) (by omega) hm hs hP2
      rw [hSS.unique hS', wsucc (n := l.length) (by omega) (by omega), ← hlen]
      exact h')
    rw [List.reverse_reverse, List.length_reverse] at h1
    exact h1
theorem bits_len_fin : ∀ i : Fin 13, (bits_Len.f 5 (IntKind.u64.wrap ((i : Nat) : Int))).isSome = true := by decide +kernel
theorem bits_len_some {i : Nat} (hi : i ≤ 12) : ∀ k, ∃ t, bits_Len.f (k + 5) (IntKind.u64.wrap (i : Int)) = some t := by
  intro k
  induction k with
  | zero =>
    have := bits_len_fin ⟨i, by omega⟩
    exact Option.isSome_iff_exists.1 this
  | succ k ih =>
    obtain ⟨t, ht⟩ := ih
    exact ⟨t, by rw [show k + 1 + 5 = (k + 5) + 1 by omega]; exact bits_Len.mono _ _ _ ht⟩
theorem sortFunc_eq {l : List S80} (hl : l.length ≤ 10) : ∃ S, Srt l S ∧ ∀ k, 2000 ≤ k → impl_Diagonal__at_impl_compareDiagonals_77.f k l = some S := by
  have h0 : ∀ k, 2000 ≤ k → ∃ S, Srt l S ∧ impl_Diagonal__at_impl_compareDiagonals_77.f k l = some S := by
    intro k hk
    obtain ⟨t, ht⟩ := bits_len_some (i := l.length) (by omega) (k - 5)
    rw [show k - 5 + 5 = k by omega] at ht
    obtain ⟨S, hS, h1⟩ : ∃ S, Srt l S ∧ impl_Diagonal__at_impl_compareDiagonals_91.f (k - 1) l 0 (l.length : Int) = some S := by
      unfold impl_Diagonal__at_impl_compareDiagonals_91.f
      rw [w64 (x := 0 + 1) (by omega) (by omega)]
      cases l with
      | nil =>
        obtain ⟨m, hm⟩ : ∃ m, k - 1 = m + 1 := ⟨k - 2, by omega⟩
        rw [hm]
        exact ⟨[], ⟨List.Perm.refl _, List.Pairwise.nil⟩, by simp only [impl_Diagonal__at_impl_compareDiagonals_91.l0]; rw [if_neg (by simp)]⟩
      | cons x Q =>
        rw [List.length_cons] at hl
        exact ins_l0 (x :: Q) (by simp; omega) Q (k - 1) [x] (by simp; omega) (by omega) (List.pairwise_singleton _ _) (List.Perm.refl _)
    refine ⟨S, hS, ?_⟩
    unfold impl_Diagonal__at_impl_compareDiagonals_77.f impl_Diagonal__at_impl_compareDiagonals_83.f
    obtain ⟨m, hm⟩ : ∃ m, k = m + 1 := ⟨k - 1, by omega⟩
    rw [ht, Option.bind_some]
    subst hm
    rw [Nat.add_sub_cancel] at h1
    simp only [impl_Diagonal__at_impl_compareDiagonals_83.l0]
    rw [w64 (x := (l.length : Int) - 0) (by omega) (by omega), if_pos (by omega), h1]
    rfl
  obtain ⟨S, hS, _⟩ := h0 2000 (Nat.le_refl _)
  refine ⟨S, hS, fun k hk => ?_⟩
  obtain ⟨S', hS', h'⟩ := h0 k hk
  rw [hS.unique hS']
  exact h'

theorem index_l0 (l : List Int) (hl : l.length ≤ 1000000) : ∀ (d k p : Nat), p + d = l.length → d < k → slices_Index_int_int.l0 k l 1 (l.length : Int) (p : Int) = some (firstFrom l d p) := by
  intro d
  induction d with
  | zero =>
    intro k p hp hk
    obtain ⟨k, rfl, _⟩ := fuel hk
    simp only [slices_Index_int_int.l0, firstFrom]
    rw [if_neg (by omega)]
  | succ d ih =>
    intro k p hp hk
    obtain ⟨k, rfl, hk⟩ := fuel hk
    simp only [slices_Index_int_int.l0, firstFrom]
    rw [if_pos (by omega), if_pos (by omega), if_pos (by omega), rd_nth, wsucc (n := l.length) (by omega) (by omega)]
    by_cases h : nth l p = 1
    · rw [if_pos h.symm, if_pos h]
    · rw [if_neg (fun e => h e.symm), if_neg h]
      exact ih k (p + 1) (by omega) (by omega)
theorem index_eq {l : List Int} (hl : l.length ≤ 1000000) {k : Nat} (hk : l.length < k) : slices_Index_int_int.f k l 1 = some (firstFrom l l.length 0) := by
  unfold slices_Index_int_int.f
  rw [← Int.natCast_zero]
  exact index_l0 l hl l.length k 0 (by omega) hk
theorem equal_l0 (a b : List Int) (hl : a.length ≤ 1000000) (hb : a.length = b.length) : ∀ (d k p : Nat), p + d = a.length → d < k → slices_Equal_int_int.l0 k a b (a.length : Int) (p : Int) = some (decide (a.drop p = b.drop p)) := by
  intro d
  induction d with
  | zero =>
    intro k p hp hk
    obtain ⟨k, rfl, _⟩ := fuel hk
    simp only [slices_Equal_int_int.l0]
    rw [if_neg (by omega), List.drop_of_length_le (by omega), List.drop_of_length_le (by omega)]
    rfl
  | succ d ih =>
    intro k p hp hk
    obtain ⟨k, rfl, hk⟩ := fuel hk
    simp only [slices_Equal_int_int.l0]
    rw [if_pos (by omega), if_pos (by omega), if_pos (by omega), if_pos (by omega), wsucc (n := a.length) (by omega) (by omega), rd_drop (l := a) (i := p) (by omega), rd_drop (l := b) (i := p) (by omega)]
    by_cases h : rd a p = rd b p
    · rw [if_pos h, ih k (p + 1) (by omega) (by omega)]
      exact some_d (by rw [h]; simp)
    · rw [if_neg h]
      exact some_f (by intro e; exact h (List.cons.inj e).1)
theorem equal_eq {a b : List Int} (hl : a.length ≤ 1000000) {k : Nat} (hk : a.length < k) : slices_Equal_int_int.f k a b = some (decide (a = b)) := by
  unfold slices_Equal_int_int.f
  by_cases h : a.length = b.length
  · rw [if_pos (by omega), ← Int.natCast_zero, equal_l0 a b hl h a.length k 0 (by omega) hk]
    rfl
  · rw [if_neg (by omega)]
    exact some_f (fun e => h (by rw [e]))
theorem mn_eq (a b : Int) : mn a b = min a b := by
  unfold mn
  split
  · rw [Int.min_eq_right (by omega)]
  · rw [Int.min_eq_left (by omega)]
theorem mx_eq (a b : Int) : mx a b = max a b := by
  unfold mx
  split
  · rw [Int.max_eq_right (by omega)]
  · rw [Int.max_eq_left (by omega)]
theorem delete_eq {l : List Int} {i : Nat} (h : i < l.length) (hl : l.length ≤ 1000) : slices_Delete_int_int.f l (i : Int) (wrap64 ((i : Int) + 1)) = some (l.eraseIdx i) := by
  unfold slices_Delete_int_int.f
  rw [w64 (by omega) (by omega), if_pos ⟨by omega, rfl⟩, Int.toNat_natCast]
theorem implTriang_l1 (q : List Int) (hq : 3 ≤ q.length ∧ q.length ≤ 12) : ∀ (d k : Nat) (left names : List Int) (out : List S80), left.length = d + 3 → names.length = d + 3 → Inc names → d ≤ 9 → out.length + d = q.length - 3 → 2400 + 20 * d ≤ k →
    (∀ N S, cut d left names = some (N, [1, 1, 1]) → Srt (out ++ N) S → Good (q.length : Int) S = true ∧ quidOf (q.length : Int) S = q) →
    ((∃ N S, cut d left names = some (N, [1, 1, 1]) ∧ Srt (out ++ N) S ∧ impl_triangulation.l1 k q left names out (left.length : Int) = some (S, true)) ∨
      ((∀ N, cut d left names ≠ some (N, [1, 1, 1])) ∧ impl_triangulation.l1 k q left names out (left.length : Int) = some ([], false))) := by
  intro d
  induction d with
  | zero =>
    intro k left names out hl hn hI hd ho hk hfin
    obtain ⟨k, rfl⟩ : ∃ m, k = m + 1 := ⟨k - 1, by omega⟩
    obtain ⟨S, hS, hS2⟩ := sortFunc_eq (l := out) (by omega)
    simp only [impl_triangulation.l1]
    rw [if_neg (by omega), hS2 k (by omega), Option.bind_some, equal_eq (by omega) (by omega), Option.bind_some]
    by_cases c : left = [1, 1, 1]
    · have hc : cut 0 left names = some ([], [1, 1, 1]) := by rw [cut, c]
      obtain ⟨h1, h2⟩ := hfin [] S hc (by rw [List.append_nil]; exact hS)
      have hlen : S.length ≤ 10 := by rw [hS.1.length_eq]; omega
      refine Or.inl ⟨[], S, hc, by rw [List.append_nil]; exact hS, ?_⟩
      rw [decide_eq_true c, if_pos rfl, implTri_eq _ _ (by omega) (by omega), h1, Option.bind_some, if_pos rfl, implQuid_eq (by omega) (by omega) (good_inR h1) (by omega), Option.bind_some, h2, equal_eq (by omega) (by omega), Option.bind_some, decide_eq_true rfl, if_pos rfl]
    · refine Or.inr ⟨fun N hN => ?_, ?_⟩
      · rw [cut] at hN
        exact c (Prod.mk.inj (Option.some.inj hN)).2
      · rw [decide_eq_false c, if_neg (by decide)]
  | succ d ih =>
    intro k left names out hl hn hI hd ho hk hfin
    obtain ⟨k, rfl⟩ : ∃ m, k = m + 1 := ⟨k - 1, by omega⟩
    simp only [impl_triangulation.l1]
    rw [if_pos (by omega), index_eq (by omega) (by omega), Option.bind_some]
    rcases first_cases left with ⟨h1, h2⟩ | ⟨i, h1, hi, h2⟩
    · rw [h1, if_pos (by omega)]
      refine Or.inr ⟨fun N hN => ?_, rfl⟩
      rw [cut, h2] at hN
      cases hN
    · have hin : i < names.length := by omega
      have hb := bef_ne_beh hi (by omega)
      have e1 : left.set (bef i left.length) (wrap64 (nth left (bef i left.length) - 1)) = dec1 left (bef i left.length) := rfl
      have e2 : ∀ L : List Int, L.set (beh i left.length) (wrap64 (nth L (beh i left.length) - 1)) = dec1 L (beh i left.length) := fun _ => rfl
      have hLen : (dec1 (dec1 left (bef i left.length)) (beh i left.length)).length = left.length := by rw [dec1_length, dec1_length]
      have e3 : (⟨mn (nth names (bef i left.length)) (nth names (beh i left.length)), mx (nth names (bef i left.length)) (nth names (beh i left.length))⟩ : S80) = cutD names i := by
        unfold cutD
        rw [mn_eq, mx_eq, show names.length = left.length by omega]
      rw [h1, if_neg (by omega), if_neg (by omega), bef_w hi (by omega), beh_w hi (by omega), if_pos (by omega), if_pos (by omega), Option.bind_some, if_pos (by omega), if_pos (by omega), if_pos (by omega), if_pos (by omega), if_pos (by omega)]
      simp only [rd_nth, Int.toNat_natCast]
      rw [e1, e2, delete_eq (by omega) (by omega), Option.bind_some, delete_eq hin (by omega), Option.bind_some, e3, w64 (x := (left.length : Int) - 1) (by omega) (by omega)]
      have hs : (stepL left i).length = left.length - 1 := stepL_length hi
      have hx := ih k (stepL left i) (names.eraseIdx i) (out ++ [cutD names i]) (by omega) (by rw [List.length_eraseIdx, if_pos hin]; omega) (hI.erase hin) (by omega) (by rw [List.length_append, List.length_singleton]; omega) (by omega) (fun N S hN hS => hfin (cutD names i :: N) S (by rw [cut, h2]; simp only; rw [hN]; rfl) (by rw [List.append_assoc, List.singleton_append] at hS; exact hS))
      rw [show (left.length : Int) - 1 = ((stepL left i).length : Int) by omega]
      rcases hx with ⟨N, S, g1, g2, g3⟩ | ⟨g1, g2⟩
      · refine Or.inl ⟨cutD names i :: N, S, by rw [cut, h2]; simp only; rw [g1]; rfl, by rw [List.append_assoc, List.singleton_append] at g2; exact g2, g3⟩
      · refine Or.inr ⟨fun N hN => ?_, g2⟩
        obtain ⟨i', N', _, _, h5, h6, h7⟩ := cut_some hN
        rw [h2] at h5
        obtain rfl := Option.some.inj h5
        exact g1 N' h6
theorem implTriang_l0 (q left : List Int) (hl : q.length = left.length ∧ left.length ≤ 1000) : ∀ (d k i : Nat), i + d = left.length → impl_triangulation.l0 (k + d + 1) q left (namesTo i) [] (left.length : Int) (i : Int) = impl_triangulation.l1 k q left (namesTo left.length) [] (left.length : Int) := by
  intro d
  induction d with
  | zero =>
    intro k i hi
    simp only [impl_triangulation.l0]
    rw [if_neg (by omega), show i = left.length by omega]
  | succ d ih =>
    intro k i hi
    obtain ⟨z, hz⟩ : ∃ z, z = k + d + 1 := ⟨_, rfl⟩
    rw [show k + (d + 1) + 1 = z + 1 by omega]
    simp only [impl_triangulation.l0]
    rw [if_pos (by omega), if_pos (by rw [namesTo_length]; omega), wsucc (n := left.length) (by omega) (by omega), hz]
    exact ih k (i + 1) (by omega)
theorem implTriang_eq {q : List Int} (hw : ∀ j, j < q.length → i64 (nth q j)) {k : Nat} (hk : 2700 ≤ k) :
    (∃ S, isQuid q S ∧ impl_triangulation.f k q = some (S, true)) ∨ ((¬ ∃ S, isQuid q S) ∧ impl_triangulation.f k q = some ([], false)) := by
  unfold impl_triangulation.f
  rw [isPolygon_eq, Option.bind_some]
  by_cases hn : 3 ≤ (q.length : Int) ∧ (q.length : Int) ≤ 12
  · obtain ⟨d, hd⟩ : ∃ d, q.length = d + 3 := ⟨q.length - 3, by omega⟩
    rw [decide_eq_true hn, ite_t]
    unfold slices_Clone_int_int.f
    rw [if_pos (by omega), Option.bind_some]
    obtain ⟨m, hm⟩ : ∃ m, k = m + q.length + 1 := ⟨k - q.length - 1, by omega⟩
    have h0 := implTriang_l0 q q ⟨rfl, by omega⟩ q.length m 0 (by omega)
    rw [Int.natCast_zero, show namesTo 0 = [] from rfl] at h0
    rw [hm, h0]
    have hx := implTriang_l1 q (by omega) d m q (namesTo q.length) [] hd (by rw [namesTo_length]; exact hd) (namesTo_inc _) (by omega) (by simp; omega) (by omega) (fun N S hN hS => by
      rw [List.nil_append] at hS
      rw [hd] at hN
      have g := good_of_cut hd (by omega) hw hN hS
      rw [hd]
      exact ⟨g.1, g.2.1⟩)
    rw [hd] at hx
    rcases hx with ⟨N, S, g1, g2, g3⟩ | ⟨g1, g2⟩
    · refine Or.inl ⟨S, ⟨d, N, hd, by omega, g1, by rw [List.nil_append] at g2; exact g2⟩, ?_⟩
      rw [hd]
      exact g3
    · refine Or.inr ⟨fun ⟨S, d', N, h1, h2, h3, h4⟩ => ?_, ?_⟩
      · obtain rfl : d = d' := by omega
        exact g1 N h3
      · rw [hd]
        exact g2
  · rw [decide_eq_false hn, ite_f]
    refine Or.inr ⟨fun ⟨S, d', N, h1, h2, h3, h4⟩ => ?_, rfl⟩
    omega
theorem wf_nth {l : List Int} (h : ∀ x ∈ l, (Lit.int .i64 x).wf = true) : ∀ j, j < l.length → i64 (nth l j) := fun j hj => wf_i64 (h _ (mem_nth.2 ⟨j, hj, rfl⟩))

theorem isQuid_vals {l : List Int} (hw : ∀ j, j < l.length → i64 (nth l j)) (h : ∃ S, isQuid l S) : (3 ≤ l.length ∧ l.length ≤ 12) ∧ ∀ j, j < l.length → 1 ≤ nth l j ∧ nth l j ≤ 10 := by
  obtain ⟨S, d, N, h1, h2, h3, h4⟩ := h
  exact ⟨by omega, (good_of_cut h1 h2 hw h3 h4).2.2⟩
theorem isq (l : List Int) (hl : l.length ≤ 1048576) (hw : ∀ j, j < l.length → i64 (nth l j)) : ∃ b, (b = true → (3 ≤ l.length ∧ l.length ≤ 12) ∧ ∀ j, j < l.length → 1 ≤ nth l j ∧ nth l j ≤ 10) ∧ ∀ k, l.length + 2800 ≤ k → spec_IsQuiddity.f k l = some b ∧ impl_IsQuiddity.f k l = some b := by
  by_cases h : ∃ S, isQuid l S
  · refine ⟨true, fun _ => isQuid_vals hw h, fun k hk => ?_⟩
    unfold spec_IsQuiddity.f impl_IsQuiddity.f
    obtain ⟨X, h1, h2, _⟩ := poOf_eq hl hw (k := k) (by omega)
    rcases implTriang_eq hw (k := k) (by omega) with ⟨S, g1, g2⟩ | ⟨g1, g2⟩
    · rw [h1, g2, Option.bind_some, Option.bind_some, (h2 h).2]
      exact ⟨rfl, rfl⟩
    · exact absurd h g1
  · refine ⟨false, (fun e => absurd e (by decide)), fun k hk => ?_⟩
    unfold spec_IsQuiddity.f impl_IsQuiddity.f
    obtain ⟨X, h1, _, h2⟩ := poOf_eq hl hw (k := k) (by omega)
    rcases implTriang_eq hw (k := k) (by omega) with ⟨S, g1, g2⟩ | ⟨g1, g2⟩
    · exact absurd ⟨S, g1⟩ h
    · rw [h1, g2, Option.bind_some, Option.bind_some, h2 h]
      exact ⟨rfl, rfl⟩

theorem idx_mod {x n : Int} (hn : 3 ≤ n ∧ n ≤ 12) : Int.tmod (wrap64 (Int.tmod x n + n)) n = x % n ∧ 0 ≤ x % n ∧ x % n < n := by
  have h0 := Int.emod_nonneg x (show n ≠ 0 by omega)
  have h1 := Int.emod_lt_of_pos x (show 0 < n by omega)
  refine ⟨?_, h0, h1⟩
  by_cases hx : 0 ≤ x
  · rw [Int.tmod_eq_emod_of_nonneg hx, w64 (by omega) (by omega), Int.tmod_eq_emod_of_nonneg (by omega), Int.add_emod_right, Int.emod_emod_of_dvd _ (Int.dvd_refl n)]
  · have e1 : Int.tmod x n = -((-x) % n) := by
      rw [← Int.tmod_eq_emod_of_nonneg (show 0 ≤ -x by omega), Int.neg_tmod, Int.neg_neg]
    have g0 := Int.emod_nonneg (-x) (show n ≠ 0 by omega)
    have g1 := Int.emod_lt_of_pos (-x) (show 0 < n by omega)
    have g2 := Int.mul_ediv_add_emod (-x) n
    rw [e1, w64 (by omega) (by omega), Int.tmod_eq_emod_of_nonneg (by omega), show -(-x % n) + n = x + n * (-x / n + 1) by rw [Int.mul_add, Int.mul_one]; omega, Int.add_mul_emod_self_left]
theorem modulo_eq {x n : Int} (hn : 3 ≤ n ∧ n ≤ 12) : impl_modulo.f x n = some (x % n) := by
  unfold impl_modulo.f
  rw [if_neg (by omega), (idx_mod hn).1]
def qc (q : List Int) (x : Int) : Int := rd q (x % (q.length : Int))
/-- The entries of i and those behind it. -/
def ent (q : List Int) (i : Int) : Nat → Int
  | 0 => 0
  | 1 => 1
  | t + 2 => wrap64 (wrap64 (qc q (i + ((t + 1 : Nat) : Int)) * ent q i (t + 1)) - ent q i t)
def entL (q : List Int) (i : Int) : Nat → List Int
  | 0 => []
  | m + 1 => entL q i m ++ [ent q i m]
theorem entL_length (q : List Int) (i : Int) : ∀ m, (entL q i m).length = m
  | 0 => rfl
  | m + 1 => by rw [entL, List.length_append, entL_length q i m]; rfl
theorem entL_nth (q : List Int) (i : Int) : ∀ m j, j < m → nth (entL q i m) j = ent q i j
  | m + 1, j, h => by
    rw [entL]
    by_cases c : j < m
    · have := entL_nth q i m j c
      rw [nth_get (by rw [List.length_append, entL_length]; omega), List.getElem_append_left (by rw [entL_length]; exact c), ← nth_get]
      exact this
    · obtain rfl : j = m := by omega
      rw [nth_get (by rw [List.length_append, entL_length]; simp), List.getElem_append_right (by rw [entL_length]; exact Nat.le_refl _)]
      simp
theorem entries_l0 (q : List Int) (hn : 3 ≤ (q.length : Int) ∧ (q.length : Int) ≤ 12) (i : Int) (hi : -2000 ≤ i ∧ i ≤ 2000) : ∀ (d k t : Nat), t + 1 + d = q.length → d < k →
    impl_entries.l0 k q i (q.length : Int) (entL q i (t + 2)) ((t + 1 : Nat) : Int) = some (entL q i (q.length + 1)) := by
  intro d
  induction d with
  | zero =>
    intro k t ht hk
    obtain ⟨k, rfl, _⟩ := fuel hk
    simp only [impl_entries.l0]
    rw [if_neg (by omega), show q.length + 1 = t + 2 by omega]
  | succ d ih =>
    intro k t ht hk
    obtain ⟨k, rfl, hk⟩ := fuel hk
    have hm := idx_mod (x := i + ((t + 1 : Nat) : Int)) hn
    have hl := entL_length q i (t + 2)
    simp only [impl_entries.l0]
    rw [if_pos (by omega), w64 (x := i + ((t + 1 : Nat) : Int)) (by omega) (by omega), modulo_eq hn, Option.bind_some, if_pos hm.2.1, if_pos hm.2.2, if_pos (by omega), if_pos (by omega), w64 (x := ((t + 1 : Nat) : Int) - 1) (by omega) (by omega), if_pos (by omega), if_pos (by omega), if_pos (by omega),
      show ((t + 1 : Nat) : Int) - 1 = ((t : Nat) : Int) by omega, rd_nth, rd_nth, entL_nth q i (t + 2) (t + 1) (by omega), entL_nth q i (t + 2) t (by omega), w64 (x := ((t + 1 : Nat) : Int) + 1) (by omega) (by omega), show ((t + 1 : Nat) : Int) + 1 = ((t + 1 + 1 : Nat) : Int) by omega]
    exact ih k (t + 1) (by omega) (by omega)
theorem entries_eq {q : List Int} (hn : 3 ≤ (q.length : Int) ∧ (q.length : Int) ≤ 12) {i : Int} (hi : -2000 ≤ i ∧ i ≤ 2000) {k : Nat} (hk : 12 < k) : impl_entries.f k q i = some (entL q i (q.length + 1)) := by
  unfold impl_entries.f
  exact entries_l0 q hn i hi (q.length - 1) k 0 (by omega) (by omega)
theorem entL_rd {q : List Int} {i x : Int} {m : Nat} (h0 : 0 ≤ x) (h1 : x < m) : rd (entL q i m) x = ent q i x.toNat := by
  have := entL_nth q i m x.toNat (by omega)
  exact this
theorem areEnds_eq {l : List Int} {t : Bool} {k : Nat} {i j : Int} (ht : t = true → (3 ≤ l.length ∧ l.length ≤ 12) ∧ ∀ j, j < l.length → 1 ≤ nth l j ∧ nth l j ≤ 10) (hI : impl_IsQuiddity.f k l = some t) :
    impl_areEnds.f k l i j = some (t && decide (-1000 ≤ i ∧ i ≤ 1000) && decide (i ≤ j ∧ j ≤ i + l.length)) := by
  unfold impl_areEnds.f impl_isIndex.f
  rw [hI, Option.bind_some]
  cases t with
  | false => rfl
  | true =>
    have h12 := (ht rfl).1
    rw [if_pos rfl, within_eq, Option.bind_some, Option.bind_some]
    by_cases h1 : -1000 ≤ i ∧ i ≤ 1000
    · rw [decide_eq_true h1, if_pos rfl, w64 (by omega) (by omega), within_eq, Option.bind_some]
      rfl
    · rw [decide_eq_false h1]
      rfl

/-- The numbers from behind i on. -/
def qList (q : List Int) (i : Int) : Nat → List Int
  | 0 => []
  | m + 1 => qList q i m ++ [qc q (i + ((m + 1 : Nat) : Int))]
theorem qList_length (q : List Int) (i : Int) : ∀ m, (qList q i m).length = m
  | 0 => rfl
  | m + 1 => by rw [qList, List.length_append, qList_length q i m]; rfl
theorem qList_nth (q : List Int) (i : Int) : ∀ m j, j < m → nth (qList q i m) j = qc q (i + ((j + 1 : Nat) : Int))
  | m + 1, j, h => by
    rw [qList]
    by_cases c : j < m
    · have := qList_nth q i m j c
      rw [nth_get (by rw [List.length_append, qList_length]; omega), List.getElem_append_left (by rw [qList_length]; exact c), ← nth_get]
      exact this
    · obtain rfl : j = m := by omega
      rw [nth_get (by rw [List.length_append, qList_length]; simp), List.getElem_append_right (by rw [qList_length]; exact Nat.le_refl _)]
      simp [qList_length]
theorem wrap_neg2 (x y : Int) : wrap64 (wrap64 x + wrap64 (-1 * y)) = wrap64 (wrap64 x - y) := by
  unfold wrap64
  omega
theorem ctVal_l0 (q : List Int) (i : Int) (m : Nat) (hm : m ≤ 20) : ∀ (d k t : Nat), t + d = m → d < k →
    spec_ctValue.l0 k (-1) (ent q i t) (ent q i (t + 1)) (qList q i m) (m : Int) (t : Int) = some (ent q i (m + 1)) := by
  intro d
  induction d with
  | zero =>
    intro k t ht hk
    obtain ⟨k, rfl, _⟩ := fuel hk
    simp only [spec_ctValue.l0]
    rw [if_neg (by omega), show t = m by omega]
  | succ d ih =>
    intro k t ht hk
    obtain ⟨k, rfl, hk⟩ := fuel hk
    have hl := qList_length q i m
    simp only [spec_ctValue.l0]
    rw [if_pos (by omega), if_pos (by omega), if_pos (by omega), rd_nth, qList_nth q i m t (by omega), wrap_neg2, w64 (x := (t : Int) + 1) (by omega) (by omega)]
    exact ih k (t + 1) (by omega) (by omega)
theorem ctVal_eq (q : List Int) (i : Int) (m : Nat) (hm : m ≤ 20) {k : Nat} (hk : m < k) : spec_ctValue.f k (qList q i m) (-1) = some (ent q i (m + 1)) := by
  unfold spec_ctValue.f
  rw [qList_length]
  exact ctVal_l0 q i m hm m k 0 (by omega) hk
theorem ebc_l0 (q : List Int) (hn : 3 ≤ (q.length : Int) ∧ (q.length : Int) ≤ 12) (i : Int) (hi : -2000 ≤ i ∧ i ≤ 2000) (m : Nat) (hm : m ≤ 20) : ∀ (d k t : Nat), t + d = m → d + 30 < k →
    spec_EntryByContinuant.l0 k q (i + ((m + 1 : Nat) : Int)) (q.length : Int) (qList q i t) (i + ((t + 1 : Nat) : Int)) = some (ent q i (m + 1), true) := by
  intro d
  induction d with
  | zero =>
    intro k t ht hk
    obtain ⟨k, rfl, _⟩ := fuel hk
    simp only [spec_EntryByContinuant.l0]
    rw [if_neg (by omega), show t = m by omega, ctVal_eq q i m hm (by omega)]
    rfl
  | succ d ih =>
    intro k t ht hk
    obtain ⟨k, rfl, hk⟩ := fuel hk
    have hm' := idx_mod (x := i + ((t + 1 : Nat) : Int)) hn
    have hl := qList_length q i t
    simp only [spec_EntryByContinuant.l0]
    rw [if_pos (by omega), if_neg (by omega), hm'.1, if_pos hm'.2.1, if_pos hm'.2.2, if_pos (by omega), w64 (x := i + ((t + 1 : Nat) : Int) + 1) (by omega) (by omega), show i + ((t + 1 : Nat) : Int) + 1 = i + ((t + 1 + 1 : Nat) : Int) by omega]
    exact ih k (t + 1) (by omega) (by omega)
theorem least_eq (a b : Int) : spec_l1Least.f a b = some (min a b) := by
  unfold spec_l1Least.f
  split
  · rw [Int.min_eq_left (by omega)]
  · rw [Int.min_eq_right (by omega)]
theorem resC (l : List Int) (a b : Int) (hl : l.length ≤ 1048576) (hw : ∀ j, j < l.length → i64 (nth l j)) (ha : i64 a) (hb : i64 b) : ∃ q c, ∀ k, l.length + 3000 ≤ k → spec_EntryByContinuant.f k l a b = some (q, c) ∧ impl_EntryByContinuant.f k l a b = some (q, c) ∧ (c = true → impl_EntryOf.f k l a b = some (q, true)) := by
  obtain ⟨t, ht, hq⟩ := isq l hl hw
  by_cases hc : t = true ∧ (-1000 ≤ a ∧ a ≤ 1000) ∧ a + 1 ≤ b ∧ b ≤ a + min (l.length : Int) 11
  · obtain ⟨rfl, h1, h2⟩ := hc
    have h12 := (ht rfl).1
    have h3 : a ≤ b ∧ b ≤ a + l.length := by omega
    have h4 : 1 ≤ b - a ∧ b - a ≤ 11 := by omega
    refine ⟨ent l a (b - a).toNat, true, fun k hk => ?_⟩
    obtain ⟨g1, g2⟩ := hq k (by omega)
    obtain ⟨m, hm⟩ : ∃ m : Nat, (b - a).toNat = m + 1 := ⟨(b - a).toNat - 1, by omega⟩
    refine ⟨?_, ?_, fun _ => ?_⟩
    · unfold spec_EntryByContinuant.f
      obtain ⟨k, rfl⟩ : ∃ m, k = m + 1 := ⟨k - 1, by omega⟩
      have h0 := ebc_l0 l (by omega) a (by omega) m (by omega) m k 0 (by omega) (by omega)
      rw [g1, Option.bind_some, if_pos rfl, l1In_eq, decide_eq_true h1, Option.bind_some, if_pos rfl, least_eq, Option.bind_some, w64 (x := a + 1) (by omega) (by omega), w64 (x := a + min (l.length : Int) 11) (by omega) (by omega), l1In_eq, decide_eq_true h2, Option.bind_some]
      simp only [spec_EntryByContinuant.j0]
      rw [Bool.not_true, if_neg (by decide), w64 (x := a + 1) (by omega) (by omega), hm]
      rw [show a + ((m + 1 : Nat) : Int) = b by omega] at h0
      exact h0
    · unfold impl_EntryByContinuant.f
      have hlen := entL_length l a (l.length + 1)
      rw [areEnds_eq ht g2, decide_eq_true h1, decide_eq_true h3, Bool.and_true, Bool.and_true, Option.bind_some, if_pos rfl, w64 (x := b - a) (by omega) (by omega), within_eq, decide_eq_true h4, Option.bind_some, if_pos rfl, entries_eq (by omega) (by omega) (by omega), Option.bind_some, if_pos (by omega), if_pos (by omega), entL_rd (by omega) (by omega)]
    · unfold impl_EntryOf.f
      have hlen := entL_length l a (l.length + 1)
      rw [areEnds_eq ht g2, decide_eq_true h1, decide_eq_true h3, Bool.and_true, Bool.and_true, Option.bind_some, if_pos rfl, entries_eq (by omega) (by omega) (by omega), Option.bind_some, w64 (x := b - a) (by omega) (by omega), if_pos (by omega), if_pos (by omega), entL_rd (by omega) (by omega)]
  · refine ⟨0, false, fun k hk => ?_⟩
    obtain ⟨g1, g2⟩ := hq k (by omega)
    refine ⟨?_, ?_, fun h => by cases h⟩
    · unfold spec_EntryByContinuant.f
      obtain ⟨k, rfl⟩ : ∃ m, k = m + 1 := ⟨k - 1, by omega⟩
      rw [g1, Option.bind_some]
      cases t with
      | false => simp only [spec_EntryByContinuant.j0]; rfl
      | true =>
        have h12 := (ht rfl).1
        rw [if_pos rfl, l1In_eq, Option.bind_some]
        by_cases h1 : -1000 ≤ a ∧ a ≤ 1000
        · rw [decide_eq_true h1, if_pos rfl, least_eq, Option.bind_some, w64 (x := a + 1) (by omega) (by omega), w64 (x := a + min (l.length : Int) 11) (by omega) (by omega), l1In_eq, decide_eq_false (fun e => hc ⟨rfl, h1, e⟩), Option.bind_some]
          simp only [spec_EntryByContinuant.j0]
          rfl
        · rw [decide_eq_false h1, if_neg (by decide)]
          simp only [spec_EntryByContinuant.j0]
          rfl
    · unfold impl_EntryByContinuant.f
      rw [areEnds_eq ht g2, Option.bind_some]
      by_cases h : (t && decide (-1000 ≤ a ∧ a ≤ 1000) && decide (a ≤ b ∧ b ≤ a + l.length)) = true
      · rw [h, if_pos rfl]
        simp only [Bool.and_eq_true, decide_eq_true_eq] at h
        obtain ⟨⟨rfl, h1⟩, h2⟩ := h
        have h12 := (ht rfl).1
        rw [w64 (x := b - a) (by omega) (by omega), within_eq, decide_eq_false (fun e => hc ⟨rfl, h1, by omega, by omega⟩)]
        rfl
      · rw [if_neg h]

/-! what is drawn -/
theorem and255 (x : Int) : 0 ≤ Go.bits .and .u64 x 255 ∧ Go.bits .and .u64 x 255 ≤ 255 := by
  have h : (BitVec.ofInt 64 x &&& BitVec.ofInt 64 255).toNat ≤ 255 := by rw [BitVec.toNat_and]; exact Nat.and_le_right
  show 0 ≤ IntKind.u64.wrap ((BitVec.ofInt 64 x &&& BitVec.ofInt 64 255).toNat : Int) ∧ IntKind.u64.wrap ((BitVec.ofInt 64 x &&& BitVec.ofInt 64 255).toNat : Int) ≤ 255
  generalize (BitVec.ofInt 64 x &&& BitVec.ofInt 64 255).toNat = m at h ⊢
  have e : IntKind.u64.wrap (m : Int) = (m : Int) % 18446744073709551616 := rfl
  rw [e]
  omega
theorem next_ok (l : List Int) (hb : ∀ x ∈ l, 0 ≤ x ∧ x ≤ 255) (p s : Int) (hp : 0 ≤ p ∧ p ≤ 1000000) : ∃ v s', spec_l1Cur_next.f l p s = some (v, p + 1, s') ∧ 0 ≤ v ∧ v ≤ 255 := by
  unfold spec_l1Cur_next.f
  rw [w64 (x := p + 1) (by omega) (by omega)]
  by_cases h1 : p < (l.length : Int)
  · have hm : rd l p ∈ l := by
      unfold rd
      rw [List.getD_eq_getElem?_getD, List.getElem?_eq_getElem (show p.toNat < l.length by omega)]
      exact List.getElem_mem _
    have hv := hb _ hm
    rw [if_pos h1, if_pos hp.1, if_pos (by omega), w64 (x := rd l p) (by omega) (by omega)]
    exact ⟨_, _, rfl, hv.1, hv.2⟩
  · rw [if_neg h1]
    split
    · exact ⟨_, _, rfl, by omega, by omega⟩
    · have hv := and255 ((IntKind.u64.wrap ((IntKind.u64.wrap ((IntKind.u64.wrap (s * 6364136223846793005)) + 0)) + 1442695040888963407)) / 1099511627776)
      exact ⟨_, _, rfl, by rw [w64 (by omega) (by omega)]; omega, by rw [w64 (by omega) (by omega)]; omega⟩
theorem pick_ok (l : List Int) (hb : ∀ x ∈ l, 0 ≤ x ∧ x ≤ 255) (p s n : Int) (hp : 0 ≤ p ∧ p ≤ 1000000) (hn : 1 ≤ n ∧ n ≤ 200) : ∃ x p' s', spec_l1Cur_pick.f l p s n = some (x, p', s') ∧ 0 ≤ x ∧ x < n ∧ 0 ≤ p' ∧ p' ≤ p + 1 := by
  unfold spec_l1Cur_pick.f
  by_cases h1 : n ≤ 1
  · rw [if_pos h1]
    exact ⟨_, _, _, rfl, by omega, by omega, by omega, by omega⟩
  · obtain ⟨v, s', h, v0, v1⟩ := next_ok l hb p s hp
    rw [if_neg h1, h, Option.bind_some, if_neg (by omega), if_neg (by omega)]
    refine ⟨_, _, _, rfl, ?_, ?_, by dsimp only; omega, by dsimp only; omega⟩
    · exact Int.tmod_nonneg _ v0
    · exact Int.tmod_lt_of_pos _ (by omega)
theorem among_ok (l : List Int) (hb : ∀ x ∈ l, 0 ≤ x ∧ x ≤ 255) (p s : Int) (xs : List Int) (hp : 0 ≤ p ∧ p ≤ 1000000) (hx : 1 ≤ xs.length ∧ xs.length ≤ 200) : ∃ x p' s', spec_l1Cur_among.f l p s xs = some (x, p', s') ∧ x ∈ xs ∧ 0 ≤ p' ∧ p' ≤ p + 1 := by
  unfold spec_l1Cur_among.f
  obtain ⟨x, p', s', h, h0, h1, h2, h3⟩ := pick_ok l hb p s (xs.length : Int) hp (by omega)
  rw [h, Option.bind_some, if_pos h0, if_pos h1]
  refine ⟨_, _, _, rfl, ?_, h2, h3⟩
  unfold rd
  rw [List.getD_eq_getElem?_getD, List.getElem?_eq_getElem (show x.toNat < xs.length by omega)]
  exact List.getElem_mem _
theorem ownL {l : List Int} (h : l.length ≤ 1000000) : spec_l1Own.f l = some l := by
  unfold spec_l1Own.f
  rw [Option.bind_some, if_pos (by simp; omega)]
  rfl
theorem sure_ok (l : List Int) (hb : ∀ x ∈ l, 0 ≤ x ∧ x ≤ 255) : ∀ (d k : Nat) (q : List Int) (p s : Int), 3 ≤ q.length → q.length + d ≤ 9 → d < k → 0 ≤ p ∧ p + d ≤ 1000000 → (∀ x ∈ q, i64 x) →
    ∃ q' p' s', spec_l1Cur_sureQuiddity.l0 k ((q.length + d : Nat) : Int) q l p s = some (q', p', s') ∧ q'.length = q.length + d ∧ 0 ≤ p' ∧ p' ≤ p + d ∧ ∀ x ∈ q', i64 x := by
  intro d
  induction d with
  | zero =>
    intro k q p s h3 h9 hk hp hq
    obtain ⟨k, rfl, _⟩ := fuel hk
    simp only [spec_l1Cur_sureQuiddity.l0]
    rw [if_neg (by omega)]
    exact ⟨_, _, _, rfl, rfl, by omega, by omega, hq⟩
  | succ d ih =>
    intro k q p s h3 h9 hk hp hq
    obtain ⟨k, rfl, hk⟩ := fuel hk
    simp only [spec_l1Cur_sureQuiddity.l0]
    obtain ⟨x, p', s', h, h0, h1, h2, h4⟩ := pick_ok l hb p s (q.length : Int) (by omega) (by omega)
    obtain ⟨i, rfl⟩ : ∃ i : Nat, x = i := ⟨x.toNat, by omega⟩
    rw [if_pos (by omega), h, Option.bind_some]
    dsimp only
    rw [w64 (x := 1 + (i : Int)) (by omega) (by omega), show (1 + (i : Int)) = ((i + 1 : Nat) : Int) by omega, w64 (x := ((i + 1 : Nat) : Int) - 1) (by omega) (by omega), w64 (x := ((i + 1 : Nat) : Int) + 1) (by omega) (by omega),
      show ((i + 1 : Nat) : Int) - 1 = (i : Int) by omega, show ((i + 1 : Nat) : Int) + 1 = ((i + 2 : Nat) : Int) by omega]
    simp only [Int.toNat_natCast]
    have ht : (q.take (i + 1)).length = i + 1 := by rw [List.length_take]; omega
    rw [if_pos (by omega), if_pos (by omega), ownL (by omega), Option.bind_some, if_pos (by omega), Option.bind_some, Option.bind_some]
    have hl : (q.take (i + 1) ++ [1] ++ q.drop (i + 1)).length = q.length + 1 := by simp; omega
    rw [if_pos (by simp; omega), Option.bind_some, if_pos (by omega), if_pos (by omega), Option.bind_some, if_neg (by omega), hl, tmod_nat]
    have hmod : (i + 2) % (q.length + 1) < q.length + 1 := Nat.mod_lt _ (by omega)
    rw [if_pos (by omega), if_pos (by omega)]
    have hA : ∀ x ∈ q.take (i + 1) ++ [1] ++ q.drop (i + 1), i64 x := by
      intro x hx
      rw [List.mem_append, List.mem_append] at hx
      rcases hx with (hx | hx) | hx
      · exact hq x (List.mem_of_mem_take hx)
      · rw [List.mem_singleton] at hx; subst hx; exact ⟨by omega, by omega⟩
      · exact hq x (List.mem_of_mem_drop hx)
    have hS : ∀ (A : List Int) (j : Nat) (y : Int), (∀ x ∈ A, i64 x) → ∀ x ∈ A.set j (wrap64 y), i64 x := by
      intro A j y hA x hx
      rcases List.mem_or_eq_of_mem_set hx with hx | hx
      · exact hA x hx
      · rw [hx]; unfold i64 wrap64; omega
    obtain ⟨q', p2, s2, e, e1, e2, e3, e4⟩ := ih k (((q.take (i + 1) ++ [1] ++ q.drop (i + 1)).set i (wrap64 (rd (q.take (i + 1) ++ [1] ++ q.drop (i + 1)) (i : Int) + 1))).set ((((i + 2) % (q.length + 1) : Nat) : Int).toNat) (wrap64 (rd ((q.take (i + 1) ++ [1] ++ q.drop (i + 1)).set i (wrap64 (rd (q.take (i + 1) ++ [1] ++ q.drop (i + 1)) (i : Int) + 1))) (((i + 2) % (q.length + 1) : Nat) : Int) + 1))) p' s' (by rw [List.length_set, List.length_set]; omega) (by rw [List.length_set, List.length_set]; omega) (by omega) (by omega) (hS _ _ _ (hS _ _ _ hA))
    rw [List.length_set, List.length_set, hl] at e e1
    refine ⟨q', p2, s2, ?_, by omega, by omega, by omega, e4⟩
    rw [show q.length + (d + 1) = q.length + 1 + d by omega, ← e]
theorem quid_ok (l : List Int) (hb : ∀ x ∈ l, 0 ≤ x ∧ x ≤ 255) {k : Nat} (hk : 100 ≤ k) : ∃ q p s, spec_l1Cur_quiddity.f k l 0 0 9 = some (q, p, s) ∧ 2 ≤ q.length ∧ q.length ≤ 9 ∧ 0 ≤ p ∧ p ≤ 1000 ∧ ∀ x ∈ q, i64 x := by
  unfold spec_l1Cur_quiddity.f
  rw [w64 (x := 9 - 2) (by omega) (by omega)]
  obtain ⟨x, p1, s1, h1, x0, x1, q0, q1⟩ := pick_ok l hb 0 0 (9 - 2) (by omega) (by omega)
  obtain ⟨i, rfl⟩ : ∃ i : Nat, x = i := ⟨x.toNat, by omega⟩
  rw [h1, Option.bind_some]
  dsimp only
  rw [w64 (x := 3 + (i : Int)) (by omega) (by omega), show 3 + (i : Int) = (([1, 1, 1] : List Int).length + i : Nat) by simp]
  obtain ⟨q, p2, s2, h2, hq, r0, r1, hi⟩ := sure_ok l hb i k [1, 1, 1] p1 s1 (by simp) (by simp; omega) (by omega) (by omega) (by intro x hx; simp at hx; subst hx; exact ⟨by omega, by omega⟩)
  unfold spec_l1Cur_sureQuiddity.f
  rw [h2, Option.bind_some]
  dsimp only
  have e3 : ([1, 1, 1] : List Int).length = 3 := rfl
  rw [e3] at hq
  obtain ⟨y, p3, s3, h3, y0, y1, t0, t1⟩ := pick_ok l hb p2 s2 14 (by omega) (by omega)
  rw [h3, Option.bind_some]
  dsimp only
  by_cases c0 : y = 0
  · obtain ⟨z, p4, s4, h4, z0, z1, u0, u1⟩ := pick_ok l hb p3 s3 (q.length : Int) (by omega) (by omega)
    obtain ⟨v, p5, s5, h5, hv, v0, v1⟩ := among_ok l hb p4 s4 [-1, 0, 1, 2, 13, 4611686018427387904] (by omega) (by simp)
    rw [if_pos c0, h4, Option.bind_some]
    dsimp only
    rw [h5, Option.bind_some]
    dsimp only
    rw [if_pos z0, if_pos z1]
    refine ⟨_, _, _, rfl, by rw [List.length_set]; omega, by rw [List.length_set]; omega, by omega, by omega, fun x hx => ?_⟩
    rcases List.mem_or_eq_of_mem_set hx with hx | hx
    · exact hi x hx
    · subst hx
      simp at hv
      unfold i64
      omega
  · rw [if_neg c0]
    by_cases c1 : y = 1
    · rw [if_pos c1, if_pos (by omega)]
      refine ⟨_, _, _, rfl, by simp; omega, by simp; omega, by omega, by omega, fun x hx => hi x (List.mem_of_mem_drop hx)⟩
    · rw [if_neg c1]
      by_cases c2 : y = 2
      · rw [if_pos c2, if_pos (by omega), if_pos (by omega)]
        have hr : ∀ j : Int, 0 ≤ j → j < q.length → i64 (rd q j) := by
          intro j j0 j1
          refine hi _ ?_
          unfold rd
          rw [List.getD_eq_getElem?_getD, List.getElem?_eq_getElem (show j.toNat < q.length by omega)]
          exact List.getElem_mem _
        refine ⟨_, _, _, rfl, by rw [List.length_set, List.length_set]; omega, by rw [List.length_set, List.length_set]; omega, by omega, by omega, fun x hx => ?_⟩
        rcases List.mem_or_eq_of_mem_set hx with hx | hx
        · rcases List.mem_or_eq_of_mem_set hx with hx | hx
          · exact hi x hx
          · rw [hx]; exact hr 1 (by omega) (by omega)
        · rw [hx]; exact hr 0 (by omega) (by omega)
      · rw [if_neg c2]
        exact ⟨_, _, _, rfl, by omega, by omega, by omega, by omega, hi⟩
theorem terms_l1 (l : List Int) (hb : ∀ x ∈ l, 0 ≤ x ∧ x ≤ 255) : ∀ (d k : Nat) (q : List Int) (p s : Int), q.length + d = 12 → d < k → 0 ≤ p ∧ p + d ≤ 1000 → ∃ r p' s', spec_l1Cur_terms.l1 k q l p s = some (r, p', s') ∧ r.length ≤ 12 ∧ 0 ≤ p' ∧ p' ≤ p + d + 1 := by
  intro d
  induction d with
  | zero =>
    intro k q p s hq hk hp
    obtain ⟨k, rfl, _⟩ := fuel hk
    simp only [spec_l1Cur_terms.l1]
    obtain ⟨x, p', s', h, h0, h1, h2, h4⟩ := pick_ok l hb p s 2 (by omega) (by omega)
    rw [h, Option.bind_some]
    dsimp only
    rw [w64 (x := 10 + x) (by omega) (by omega), if_neg (by omega)]
    exact ⟨_, _, _, rfl, by omega, by omega, by omega⟩
  | succ d ih =>
    intro k q p s hq hk hp
    obtain ⟨k, rfl, hk⟩ := fuel hk
    simp only [spec_l1Cur_terms.l1]
    obtain ⟨x, p', s', h, h0, h1, h2, h4⟩ := pick_ok l hb p s 2 (by omega) (by omega)
    rw [h, Option.bind_some]
    dsimp only
    by_cases hc : (q.length : Int) < wrap64 (10 + x)
    · rw [if_pos hc, if_pos (by omega)]
      obtain ⟨r, p2, s2, e, e1, e2, e3⟩ := ih k (q ++ [2]) p' s' (by simp; omega) (by omega) (by omega)
      exact ⟨r, p2, s2, e, e1, e2, by omega⟩
    · rw [if_neg hc]
      exact ⟨_, _, _, rfl, by omega, by omega, by omega⟩
theorem terms_l2 (l : List Int) : ∀ (d k : Nat) (q : List Int) (p s : Int), q.length + d = 12 → d < k → ∃ r, spec_l1Cur_terms.l2 k q l p s = some (r, p, s) ∧ r.length ≤ 12 := by
  intro d
  induction d with
  | zero =>
    intro k q p s hq hk
    obtain ⟨k, rfl, _⟩ := fuel hk
    simp only [spec_l1Cur_terms.l2]
    rw [if_neg (by omega)]
    exact ⟨_, rfl, by omega⟩
  | succ d ih =>
    intro k q p s hq hk
    obtain ⟨k, rfl, hk⟩ := fuel hk
    simp only [spec_l1Cur_terms.l2]
    by_cases hc : (q.length : Int) < 10
    · rw [if_pos hc, if_pos (by omega)]
      exact ih k (q ++ [30]) p s (by simp; omega) (by omega)
    · rw [if_neg hc]
      exact ⟨_, rfl, by omega⟩
theorem terms_l0 (l : List Int) (hb : ∀ x ∈ l, 0 ≤ x ∧ x ≤ 255) (lo hi : Int) (hw : 1 ≤ wrap64 (wrap64 (hi - lo) + 1) ∧ wrap64 (wrap64 (hi - lo) + 1) ≤ 200) : ∀ (d k : Nat) (q : List Int) (p s : Int), q.length + d ≤ 7 → d + 20 < k → 0 ≤ p ∧ p + d ≤ 900 →
    ∃ r p' s', spec_l1Cur_terms.l0 k lo hi q (d : Int) l p s = some (r, p', s') ∧ r.length ≤ 12 ∧ 0 ≤ p' ∧ p' ≤ p + d + 20 := by
  intro d
  induction d with
  | zero =>
    intro k q p s hq hk hp
    obtain ⟨k, rfl, hk⟩ := fuel hk
    simp only [spec_l1Cur_terms.l0]
    obtain ⟨x, p', s', h, h0, h1, h2, h4⟩ := pick_ok l hb p s 14 (by omega) (by omega)
    rw [if_neg (by omega), h, Option.bind_some]
    dsimp only
    by_cases c0 : x = 0
    · obtain ⟨v, p5, s5, h5, hv, v0, v1⟩ := among_ok l hb p' s' [30, 31, -30, -9223372036854775808] (by omega) (by simp)
      rw [if_pos c0, h5, Option.bind_some, if_pos (by omega)]
      exact ⟨_, _, _, rfl, by simp; omega, by dsimp only; omega, by dsimp only; omega⟩
    · rw [if_neg c0]
      by_cases c1 : x = 1
      · rw [if_pos c1]
        obtain ⟨r, p2, s2, e, e1, e2, e3⟩ := terms_l1 l hb (12 - q.length) k q p' s' (by omega) (by omega) (by omega)
        exact ⟨r, p2, s2, e, e1, e2, by omega⟩
      · rw [if_neg c1]
        by_cases c2 : x = 2
        · rw [if_pos c2]
          obtain ⟨r, e, e1⟩ := terms_l2 l (12 - q.length) k q p' s' (by omega) (by omega)
          exact ⟨r, _, _, e, e1, by omega, by omega⟩
        · rw [if_neg c2]
          exact ⟨_, _, _, rfl, by omega, by omega, by omega⟩
  | succ d ih =>
    intro k q p s hq hk hp
    obtain ⟨k, rfl, hk⟩ := fuel hk
    simp only [spec_l1Cur_terms.l0]
    obtain ⟨x, p', s', h, h0, h1, h2, h4⟩ := pick_ok l hb p s _ (by omega) hw
    rw [if_pos (by omega), h, Option.bind_some, if_pos (by omega), w64 (x := ((d + 1 : Nat) : Int) - 1) (by omega) (by omega), show ((d + 1 : Nat) : Int) - 1 = (d : Int) by omega]
    obtain ⟨r, p2, s2, e, e1, e2, e3⟩ := ih k (q ++ [wrap64 (lo + x)]) p' s' (by simp; omega) (by omega) (by omega)
    exact ⟨r, p2, s2, e, e1, e2, by omega⟩
theorem terms_ok (l : List Int) (hb : ∀ x ∈ l, 0 ≤ x ∧ x ≤ 255) (lo hi : Int) (hw : 1 ≤ wrap64 (wrap64 (hi - lo) + 1) ∧ wrap64 (wrap64 (hi - lo) + 1) ≤ 200) {k : Nat} (hk : 100 ≤ k) : ∃ r p s, spec_l1Cur_terms.f k l 0 0 lo hi = some (r, p, s) ∧ r.length ≤ 12 ∧ 0 ≤ p ∧ p ≤ 100 := by
  unfold spec_l1Cur_terms.f
  obtain ⟨x, p', s', h, h0, h1, h2, h4⟩ := pick_ok l hb 0 0 8 (by omega) (by omega)
  obtain ⟨i, rfl⟩ : ∃ i : Nat, x = i := ⟨x.toNat, by omega⟩
  rw [h, Option.bind_some]
  obtain ⟨r, p2, s2, e, e1, e2, e3⟩ := terms_l0 l hb lo hi hw i k [] p' s' (by simp; omega) (by omega) (by omega)
  exact ⟨r, p2, s2, e, e1, e2, by omega⟩
theorem drawT_ok (l : List Int) (hb : ∀ x ∈ l, 0 ≤ x ∧ x ≤ 255) {k : Nat} (hk : 100 ≤ k) : ∃ r, spec_DrawTermsOf.f k l = some r ∧ r.length ≤ 12 := by
  obtain ⟨r, p, s, h, hr, _⟩ := terms_ok l hb (-3) 6 (by decide +kernel) hk
  unfold spec_DrawTermsOf.f spec_DrawIsTermList.f
  rw [h]
  exact ⟨r, rfl, hr⟩
theorem drawS_ok (l : List Int) (hb : ∀ x ∈ l, 0 ≤ x ∧ x ≤ 255) {k : Nat} (hk : 100 ≤ k) : ∃ r t, spec_DrawSplitContinuant.f k l = some (r, t) ∧ r.length ≤ 12 := by
  obtain ⟨r, p, s, h, hr, p0, p1⟩ := terms_ok l hb (-2) 4 (by decide +kernel) hk
  obtain ⟨x, p2, s2, h2, x0, x1, q0, q1⟩ := pick_ok l hb p s ((r.length : Int) + 2) (by omega) (by omega)
  obtain ⟨y, p3, s3, h3, y0, y1, r0, r1⟩ := pick_ok l hb p2 s2 2 (by omega) (by omega)
  unfold spec_DrawSplitContinuant.f spec_DrawPutOne.f
  rw [h, Option.bind_some]
  dsimp only
  rw [w64 (x := (r.length : Int) + 2) (by omega) (by omega), h2, Option.bind_some]
  dsimp only
  rw [h3]
  exact ⟨r, _, rfl, hr⟩
theorem drawC_ok (l : List Int) (hb : ∀ x ∈ l, 0 ≤ x ∧ x ≤ 255) : ∃ n, spec_DrawCountTerms.f l = some n := by
  obtain ⟨v, p, s, h, _⟩ := among_ok l hb 0 0 [0, 1, 2, 3, 5, 10, 11, -1] (by omega) (by simp)
  unfold spec_DrawCountTerms.f
  rw [h]
  exact ⟨v, rfl⟩
theorem drawE_ok (l : List Int) (hb : ∀ x ∈ l, 0 ≤ x ∧ x ≤ 255) {k : Nat} (hk : 100 ≤ k) : ∃ q i j, spec_DrawEntryByContinuant.f k l = some (q, i, j) ∧ q.length ≤ 9 ∧ (∀ x ∈ q, i64 x) ∧ i64 i ∧ i64 j := by
  obtain ⟨q, p, s, h, hq2, hq9, p0, p1, hq⟩ := quid_ok l hb hk
  obtain ⟨x, p2, s2, h2, x0, x1, q0, q1⟩ := pick_ok l hb p s 9 (by omega) (by omega)
  obtain ⟨v, p5, s5, h5, hv, v0, v1⟩ := among_ok l hb p2 s2 [0, 1, -1, 5, -1000, 1000, 1001, 4611686018427387904, x] (by omega) (by simp)
  obtain ⟨y, p3, s3, h3, y0, y1, r0, r1⟩ := pick_ok l hb p5 s5 ((q.length : Int) + 3) (by omega) (by omega)
  unfold spec_DrawEntryByContinuant.f
  rw [h, Option.bind_some]
  dsimp only
  rw [h2, Option.bind_some]
  dsimp only
  rw [h5, Option.bind_some]
  dsimp only
  rw [w64 (x := (q.length : Int) + 3) (by omega) (by omega), h3]
  refine ⟨q, v, _, rfl, hq9, hq, ?_, ?_⟩
  · simp at hv
    unfold i64
    omega
  · unfold i64 wrap64
    omega
/-! continuants, exact -/
def kst (s : Int) (p : Int × Int) (x : Int) : Int × Int := (p.2, x * p.2 + s * p.1)
def kf (s : Int) (p : Int × Int) (l : List Int) : Int × Int := l.foldl (kst s) p
/-- the continuant of a list, and that of its tail -/
def kl (s : Int) : List Int → Int × Int
  | [] => (0, 1)
  | a :: t => ((kl s t).2, a * (kl s t).2 + s * (kl s t).1)
def K (s : Int) (l : List Int) : Int := (kl s l).2
theorem kf_lin (s : Int) : ∀ (l : List Int) (p q : Int), (kf s (p, q) l).2 = q * (kl s l).2 + s * p * (kl s l).1 := by
  intro l
  induction l with
  | nil => intro p q; simp [kf, kl]
  | cons a t ih =>
    intro p q
    have h := ih q (a * q + s * p)
    show (kf s (q, a * q + s * p) t).2 = _
    rw [h]
    simp only [kl]
    rw [Int.add_mul, Int.mul_add, Int.mul_assoc a q, Int.mul_left_comm a q, Int.mul_assoc s q, Int.mul_left_comm s q]
    omega
theorem kf_K (s : Int) (l : List Int) : (kf s (0, 1) l).2 = K s l := by
  rw [kf_lin]
  unfold K
  simp
theorem kf_rev (s : Int) (l : List Int) : kf s (0, 1) l.reverse = kl s l := by
  unfold kf
  rw [List.foldl_reverse]
  induction l with
  | nil => rfl
  | cons a t ih => rw [List.foldr_cons, ih]; rfl
theorem K_rev (s : Int) (l : List Int) : K s l.reverse = K s l := by rw [← kf_K, kf_rev]; rfl
theorem kf_app (s : Int) (p : Int × Int) (a b : List Int) : kf s p (a ++ b) = kf s (kf s p a) b := List.foldl_append
theorem kf_one (s : Int) (p : Int × Int) (x : Int) : kf s p [x] = kst s p x := rfl
theorem kf_K2 (s : Int) (l : List Int) (x : Int) : kf s (0, 1) (l ++ [x]) = (K s l, K s (l ++ [x])) := by
  have h := kf_K s (l ++ [x])
  rw [kf_app, kf_one] at h ⊢
  exact Prod.ext (kf_K s l) h
theorem kl_fst (s : Int) (a : Int) (t : List Int) : (kl s (a :: t)).1 = K s t := rfl
theorem K_split (l : List Int) (x : Int) (y : Int) (r : List Int) : K (-1) (l ++ [x]) * K (-1) (y :: r) - K (-1) l * K (-1) r = K (-1) (l ++ [x] ++ y :: r) := by
  rw [← kf_K (-1) (l ++ [x] ++ y :: r), kf_app, kf_K2, kf_lin, kl_fst]
  rw [Int.mul_assoc, Int.neg_mul, Int.one_mul]
  rfl
theorem kdet (p q : Int × Int) : ∀ l : List Int, (kf (-1) p l).1 * (kf (-1) q l).2 - (kf (-1) p l).2 * (kf (-1) q l).1 = p.1 * q.2 - p.2 * q.1 := by
  intro l
  induction l generalizing p q with
  | nil => rfl
  | cons x t ih =>
    show (kf (-1) (kst (-1) p x) t).1 * (kf (-1) (kst (-1) q x) t).2 - (kf (-1) (kst (-1) p x) t).2 * (kf (-1) (kst (-1) q x) t).1 = _
    rw [ih]
    unfold kst
    dsimp only
    rw [Int.mul_add, Int.add_mul, Int.mul_assoc x p.2, Int.mul_left_comm p.2 x, Int.neg_mul, Int.neg_mul, Int.one_mul, Int.one_mul, Int.mul_neg, Int.neg_mul, Int.mul_comm p.2 q.1]
    omega
theorem K_det (a : Int) (m : List Int) (b : Int) : K (-1) (a :: m) * K (-1) (m ++ [b]) - K (-1) (a :: m ++ [b]) * K (-1) m = 1 := by
  have h := kdet (1, a) (0, 1) (m ++ [b])
  have e1 : kf (-1) (1, a) (m ++ [b]) = kf (-1) (0, 1) (a :: m ++ [b]) := by
    show _ = kf (-1) (kst (-1) (0, 1) a) (m ++ [b])
    unfold kst
    simp
  rw [e1, kf_K2, show a :: m ++ [b] = (a :: m) ++ [b] from rfl, kf_K2] at h
  dsimp only at h
  simp at h
  exact h
theorem K_len {s : Int} (hs : s = 1 ∨ s = -1) : ∀ l : List Int, (∀ x ∈ l, -30 ≤ x ∧ x ≤ 30) → (kl s l).1.natAbs ≤ 31 ^ l.length ∧ (kl s l).2.natAbs ≤ 31 ^ l.length := by
  intro l
  induction l with
  | nil => intro _; simp [kl]
  | cons a t ih =>
    intro h
    obtain ⟨h1, h2⟩ := ih (fun x hx => h x (List.mem_cons_of_mem _ hx))
    have ha := h a (by simp)
    simp only [kl, List.length_cons, Nat.pow_succ]
    refine ⟨by omega, ?_⟩
    have h3 : (a * (kl s t).2).natAbs ≤ 30 * 31 ^ t.length := by
      rw [Int.natAbs_mul]
      exact Nat.mul_le_mul (by omega) h2
    have h4 : (s * (kl s t).1).natAbs ≤ 31 ^ t.length := by rcases hs with rfl | rfl <;> simp <;> omega
    omega
theorem tmP_sum : ∀ (l : List Int) (p : Int), (tmP l p).sum = p * K (-1) l
  | [], p => by simp [tmP, tlP, prodI, K, kl]
  | [a], p => by simp [tmP, tlP, prodI, K, kl]
  | a :: b :: t, p => by
    have h1 := tmP_sum t (-p)
    have h2 := tmP_sum (b :: t) (p * a)
    unfold tmP at h1 h2 ⊢
    rw [List.sum_cons] at h1 h2
    rw [tlP, List.sum_cons, List.sum_append, List.sum_cons, h1]
    have e : p * prodI (a :: b :: t) = p * a * prodI (b :: t) := by simp only [prodI, Int.mul_assoc]
    have e2 : K (-1) (a :: b :: t) = a * K (-1) (b :: t) - K (-1) t := by
      show a * (kl (-1) (b :: t)).2 + -1 * (kl (-1) (b :: t)).1 = _
      rw [kl_fst]
      unfold K
      omega
    rw [e, e2, Int.mul_sub, ← Int.mul_assoc, ← h2, Int.neg_mul]
    omega
def fibN : Nat → Nat
  | 0 => 1
  | 1 => 1
  | n + 2 => fibN (n + 1) + fibN n
theorem tmP_len : ∀ (l : List Int) (p : Int), (tmP l p).length = fibN l.length
  | [], p => by simp [tmP, tlP, fibN]
  | [a], p => by simp [tmP, tlP, fibN]
  | a :: b :: t, p => by
    have h1 := tmP_len t (-p)
    have h2 := tmP_len (b :: t) (p * a)
    unfold tmP at h1 h2 ⊢
    rw [List.length_cons] at h1 h2
    rw [tlP, List.length_cons, List.length_append, List.length_cons, h1]
    simp only [List.length_cons] at h2 ⊢
    simp only [fibN]
    omega
theorem wrap_add (a b : Int) : wrap64 (wrap64 a + wrap64 b) = wrap64 (a + b) := by unfold wrap64; omega
theorem wrap_sub (a b : Int) : wrap64 (wrap64 a - wrap64 b) = wrap64 (a - b) := by unfold wrap64; omega
theorem wrap_mul2 (a b : Int) : wrap64 (wrap64 a * wrap64 b) = wrap64 (a * b) := by rw [wrap_mul, Int.mul_comm, wrap_mul, Int.mul_comm]
theorem wrap_mulr (a b : Int) : wrap64 (a * wrap64 b) = wrap64 (a * b) := by rw [Int.mul_comm, wrap_mul, Int.mul_comm]
theorem contF (s : Int) : ∀ (l : List Int) (p q : Int), l.foldl (contStep s) (wrap64 p, wrap64 q) = (wrap64 (kf s (p, q) l).1, wrap64 (kf s (p, q) l).2)
  | [], _, _ => rfl
  | x :: t, p, q => by
    have e : contStep s (wrap64 p, wrap64 q) x = (wrap64 q, wrap64 (x * q + s * p)) := by
      unfold contStep
      dsimp only
      rw [wrap_mulr, wrap_mulr, wrap_add]
    rw [List.foldl_cons, e, contF s t]
    rfl
theorem contOf_wrap (s : Int) (l : List Int) : contOf s l = wrap64 (K s l) := by
  have h := contF s l 0 1
  rw [w64 (x := 0) (by omega) (by omega), w64 (x := 1) (by omega) (by omega)] at h
  unfold contOf
  rw [h, kf_K]
theorem K_small {s : Int} (hs : s = 1 ∨ s = -1) {l : List Int} (hl : l.length ≤ 10) (h : ∀ x ∈ l, -30 ≤ x ∧ x ≤ 30) : (K s l).natAbs ≤ 819628286980801 := by
  have h1 := (K_len hs l h).2
  have h2 : 31 ^ l.length ≤ 31 ^ 10 := Nat.pow_le_pow_right (by omega) hl
  have h3 : (31 : Nat) ^ 10 = 819628286980801 := by decide
  unfold K
  omega
theorem contOf_K {s : Int} (hs : s = 1 ∨ s = -1) {l : List Int} (hl : l.length ≤ 10) (h : ∀ x ∈ l, -30 ≤ x ∧ x ≤ 30) : contOf s l = K s l := by
  have h1 := K_small hs hl h
  rw [contOf_wrap, w64 (by omega) (by omega)]
theorem sum_wrap : ∀ l : List Int, wrap64 (l.map wrap64).sum = wrap64 l.sum
  | [] => rfl
  | a :: t => by
    rw [List.map_cons, List.sum_cons, List.sum_cons, ← wrap_add (wrap64 a), sum_wrap t]
    unfold wrap64
    omega
/-- The determinant, as the program's numbers tell it. -/
theorem det_wrap (a : Int) (m : List Int) (b : Int) : wrap64 (wrap64 (contOf (-1) (a :: m) * contOf (-1) (m ++ [b])) - wrap64 (contOf (-1) (a :: m ++ [b]) * contOf (-1) m)) = 1 := by
  rw [contOf_wrap, contOf_wrap, contOf_wrap, contOf_wrap, wrap_mul2, wrap_mul2, wrap_sub, K_det, w64 (by omega) (by omega)]
theorem split_wrap (l : List Int) (i : Nat) (h0 : 0 < i) (h : i < l.length) : wrap64 (wrap64 (contOf (-1) (l.take i) * contOf (-1) (l.drop i)) - wrap64 (contOf (-1) (l.take (i - 1)) * contOf (-1) (l.drop (i + 1)))) = contOf (-1) l := by
  have e1 : l.take i = l.take (i - 1) ++ [l[i - 1]] := by
    have := List.take_succ_eq_append_getElem (l := l) (i := i - 1) (by omega)
    rwa [show i - 1 + 1 = i by omega] at this
  have e2 : l.drop i = l[i] :: l.drop (i + 1) := List.drop_eq_getElem_cons h
  have e3 : l = l.take (i - 1) ++ [l[i - 1]] ++ l[i] :: l.drop (i + 1) := by rw [← e1, ← e2, List.take_append_drop]
  rw [contOf_wrap, contOf_wrap, contOf_wrap, contOf_wrap, contOf_wrap, wrap_mul2, wrap_mul2, wrap_sub, e1, e2, K_split, ← e3]
/-- Numerator and denominator, up to one sign, are continuants. -/
def FrOk (l : List Int) (d : Nat) (p q : Int) : Prop := 1 ≤ q ∧ ((p = K (-1) (l.drop d) ∧ q = K (-1) (l.drop (d + 1))) ∨ (p = -K (-1) (l.drop d) ∧ q = -K (-1) (l.drop (d + 1))))
theorem K_cons (a b : Int) (t : List Int) : K (-1) (a :: b :: t) = a * K (-1) (b :: t) - K (-1) t := by
  show a * (kl (-1) (b :: t)).2 + -1 * (kl (-1) (b :: t)).1 = _
  rw [kl_fst]
  unfold K
  omega
theorem drop_mem {l : List Int} (h : ∀ x ∈ l, -30 ≤ x ∧ x ≤ 30) (d : Nat) : ∀ x ∈ l.drop d, -30 ≤ x ∧ x ≤ 30 := fun x hx => h x (List.mem_of_mem_drop hx)
theorem fr_l0 (l : List Int) (hl : ∀ x ∈ l, -30 ≤ x ∧ x ≤ 30) (hn : l.length ≤ 10) : ∀ (d k : Nat) (p q : Int), d + 1 ≤ l.length → FrOk l d p q → ∀ a b, spec_ctFraction.l0 k l (-1) p q ((d : Int) - 1) = some (a, b, true) → FrOk l 0 a b := by
  intro d
  induction d with
  | zero =>
    intro k p q hd hf a b h
    cases k with
    | zero => cases h
    | succ k =>
      simp only [spec_ctFraction.l0] at h
      rw [if_neg (by omega)] at h
      cases h
      exact hf
  | succ d ih =>
    intro k p q hd hf a b h
    cases k with
    | zero => cases h
    | succ k =>
      have ei : (((d + 1 : Nat) : Int) - 1) = (d : Int) := by omega
      rw [ei] at h
      simp only [spec_ctFraction.l0] at h
      rw [if_pos (by omega)] at h
      by_cases hz : p = 0
      · rw [if_pos hz] at h; cases h
      · rw [if_neg hz, if_pos (by omega), if_pos (by omega), w64 (x := (d : Int) - 1) (by omega) (by omega), rd_nat (by omega)] at h
        have hd1 : l.drop d = l[d] :: l.drop (d + 1) := List.drop_eq_getElem_cons (by omega)
        have hd2 : l.drop (d + 1) = l[d + 1] :: l.drop (d + 2) := List.drop_eq_getElem_cons (by omega)
        have b0 := K_small (s := -1) (.inr rfl) (l := l.drop d) (by rw [List.length_drop]; omega) (drop_mem hl d)
        have b1 := K_small (s := -1) (.inr rfl) (l := l.drop (d + 1)) (by rw [List.length_drop]; omega) (drop_mem hl (d + 1))
        have b2 := K_small (s := -1) (.inr rfl) (l := l.drop (d + 2)) (by rw [List.length_drop]; omega) (drop_mem hl (d + 2))
        have hk : K (-1) (l.drop d) = l[d] * K (-1) (l.drop (d + 1)) - K (-1) (l.drop (d + 2)) := by
          rw [hd1, hd2, K_cons]
        unfold FrOk at hf ih
        generalize K (-1) (l.drop (d + 1)) = k1 at *
        generalize K (-1) (l.drop (d + 1 + 1)) = k2 at *
        generalize K (-1) (l.drop d) = k0 at *
        generalize l[d] = x at *
        have e1 : wrap64 (wrap64 (x * k1) + wrap64 (-1 * k2)) = k0 := by rw [w64 (x := x * k1) (by omega) (by omega), w64 (x := -1 * k2) (by omega) (by omega), w64 (by omega) (by omega)]; omega
        have e2 : wrap64 (wrap64 (x * -k1) + wrap64 (-1 * -k2)) = -k0 := by rw [Int.mul_neg, w64 (x := -(x * k1)) (by omega) (by omega), w64 (x := -1 * -k2) (by omega) (by omega), w64 (by omega) (by omega)]; omega
        obtain ⟨h1, hpq⟩ := hf
        by_cases hneg : p < 0
        · rw [if_pos hneg] at h
          rcases hpq with ⟨rfl, rfl⟩ | ⟨rfl, rfl⟩
          · rw [e1, w64 (x := -k0) (by omega) (by omega), w64 (x := -p) (by omega) (by omega)] at h
            exact ih k _ _ (by omega) ⟨by omega, .inr ⟨rfl, rfl⟩⟩ a b h
          · rw [e2, w64 (x := - -k0) (by omega) (by omega), w64 (x := - -k1) (by omega) (by omega)] at h
            exact ih k _ _ (by omega) ⟨by omega, .inl ⟨by omega, by omega⟩⟩ a b h
        · rw [if_neg hneg] at h
          rcases hpq with ⟨rfl, rfl⟩ | ⟨rfl, rfl⟩
          · rw [e1] at h
            exact ih k _ _ (by omega) ⟨by omega, .inl ⟨rfl, rfl⟩⟩ a b h
          · rw [e2] at h
            exact ih k _ _ (by omega) ⟨by omega, .inr ⟨rfl, rfl⟩⟩ a b h
theorem fr_ok {l : List Int} (hl : ∀ x ∈ l, -30 ≤ x ∧ x ≤ 30) (hn : l.length ≤ 10) (h0 : 0 < l.length) {k : Nat} {a b : Int} (h : spec_ctFraction.f k l (-1) = some (a, b, true)) : FrOk l 0 a b := by
  unfold spec_ctFraction.f at h
  rw [w64 (x := (l.length : Int) - 1) (by omega) (by omega), w64 (x := (l.length : Int) - 2) (by omega) (by omega), if_pos (by omega), if_pos (by omega), show (l.length : Int) - 2 = ((l.length - 1 : Nat) : Int) - 1 by omega, show (l.length : Int) - 1 = ((l.length - 1 : Nat) : Int) by omega, rd_nat (by omega)] at h
  refine fr_l0 l hl hn (l.length - 1) k _ 1 (by omega) ⟨by omega, .inl ⟨?_, ?_⟩⟩ a b h
  · have : l.drop (l.length - 1) = [l[l.length - 1]] := by
      rw [List.drop_eq_getElem_cons (by omega), List.drop_of_length_le (by omega)]
    rw [this]
    simp [K, kl]
  · rw [List.drop_of_length_le (by omega)]
    rfl
theorem dSame_l0 (l : List Int) (hl : l.length ≤ 1000000) : ∀ (d k i : Nat), i + d = l.length → d < k → laws_dSame.l0 k l l (l.length : Int) (i : Int) = some true := by
  intro d
  induction d with
  | zero =>
    intro k i hi hk
    obtain ⟨k, rfl, _⟩ := fuel hk
    simp only [laws_dSame.l0]
    rw [if_neg (by omega)]
  | succ d ih =>
    intro k i hi hk
    obtain ⟨k, rfl, hk⟩ := fuel hk
    simp only [laws_dSame.l0]
    rw [if_pos (by omega), if_pos (by omega), if_pos (by omega), if_pos (by omega), if_pos trivial, wsucc (n := l.length) (by omega) (by omega)]
    exact ih k (i + 1) (by omega) (by omega)
theorem dSame_self {l : List Int} {k : Nat} (hl : l.length ≤ 1000000) (hk : l.length < k) : laws_dSame.f k l l = some true := by
  unfold laws_dSame.f
  rw [if_pos rfl]
  exact dSame_l0 l hl l.length k 0 (by omega) hk
theorem dLists_l0 (l : List (List Int)) (hl : l.length ≤ 1000) (hs : ∀ i : Int, (laws_FnContinuantsSplit.row l i).length ≤ 1000) : ∀ (d k i : Nat), i + d = l.length → d + 1001 < k → laws_dLists.l0 k l l (l.length : Int) (i : Int) = some true := by
  intro d
  induction d with
  | zero =>
    intro k i hi hk
    obtain ⟨k, rfl, _⟩ := fuel hk
    simp only [laws_dLists.l0]
    rw [if_neg (by omega)]
  | succ d ih =>
    intro k i hi hk
    obtain ⟨k, rfl, hk⟩ := fuel hk
    simp only [laws_dLists.l0]
    have h1 := hs i
    rw [if_pos (by omega), if_pos (by omega), if_pos (by omega), if_pos (by omega)]
    show Option.bind (laws_dSame.f k (laws_FnContinuantsSplit.row l (i : Int)) (laws_FnContinuantsSplit.row l (i : Int))) _ = _
    rw [dSame_self (k := k) (l := laws_FnContinuantsSplit.row l i) (by omega) (by omega), Option.bind_some, if_pos rfl, wsucc (n := l.length) (by omega) (by omega)]
    exact ih k (i + 1) (by omega) (by omega)
theorem dBack_l0 (l : List Int) (hl : l.length ≤ 1000) : ∀ (i k : Nat) (acc : List Int), i ≤ l.length → acc.length + i ≤ 1000 → i < k → laws_dBack.l0 k l acc ((i : Int) - 1) = some (acc ++ (l.take i).reverse) := by
  intro i
  induction i with
  | zero =>
    intro k acc hi ha hk
    obtain ⟨k, rfl, _⟩ := fuel hk
    simp only [laws_dBack.l0]
    rw [if_neg (by omega)]
    simp
  | succ i ih =>
    intro k acc hi ha hk
    obtain ⟨k, rfl, hk⟩ := fuel hk
    simp only [laws_dBack.l0]
    rw [if_pos (by omega), if_pos (by omega), if_pos (by omega), if_pos (by omega), show ((i + 1 : Nat) : Int) - 1 = (i : Int) by omega, w64 (x := (i : Int) - 1) (by omega) (by omega), ih k _ (by omega) (by simp; omega) (by omega), rd_nat (by omega), List.take_succ_eq_append_getElem (by omega), List.reverse_append, List.append_assoc]
    rfl
theorem dBack_eq {l : List Int} (hl : l.length ≤ 1000) {k : Nat} (hk : l.length < k) : laws_dBack.f k l = some l.reverse := by
  unfold laws_dBack.f
  rw [w64 (x := (l.length : Int) - 1) (by omega) (by omega), dBack_l0 l hl l.length k [] (Nat.le_refl _) (by simp; omega) hk, List.take_length]
  rfl
theorem dSum_l0 (l : List Int) (hl : l.length ≤ 1000000) : ∀ (d k i : Nat) (s : Int), i + d = l.length → d < k → laws_dSum.l0 k (wrap64 s) l (l.length : Int) (i : Int) = some (wrap64 (s + (l.drop i).sum)) := by
  intro d
  induction d with
  | zero =>
    intro k i s hi hk
    obtain ⟨k, rfl, _⟩ := fuel hk
    simp only [laws_dSum.l0]
    rw [if_neg (by omega), List.drop_of_length_le (by omega)]
    simp
  | succ d ih =>
    intro k i s hi hk
    obtain ⟨k, rfl, hk⟩ := fuel hk
    simp only [laws_dSum.l0]
    rw [if_pos (by omega), if_pos (by omega), if_pos (by omega), wsucc (n := l.length) (by omega) (by omega), show wrap64 (wrap64 s + rd l (i : Int)) = wrap64 (s + rd l (i : Int)) by unfold wrap64; omega, ih k (i + 1) _ (by omega) (by omega), rd_drop (l := l) (i := i) (by omega), List.sum_cons, Int.add_assoc]
theorem dSum_eq {l : List Int} (hl : l.length ≤ 1000000) {k : Nat} (hk : l.length < k) : laws_dSum.f k l = some (wrap64 l.sum) := by
  unfold laws_dSum.f
  have h := dSum_l0 l hl l.length k 0 0 (by omega) hk
  rw [w64 (x := 0) (by omega) (by omega)] at h
  rw [List.drop_zero, Int.zero_add] at h
  exact h
theorem count_fin : ∀ i : Fin 11, impl_CountTerms.f 5000 ((i : Nat) : Int) = some (((fibN i : Nat) : Int), true) ∧ spec_CountTerms.f 5000 ((i : Nat) : Int) = some (((fibN i : Nat) : Int), true) := by decide +kernel
theorem count_any (n : Int) : ∃ c b, impl_CountTerms.f 5000 n = some (c, b) ∧ spec_CountTerms.f 5000 n = some (c, b) := by
  by_cases h : 0 ≤ n ∧ n ≤ 10
  · have := count_fin ⟨n.toNat, by omega⟩
    rw [show (((⟨n.toNat, by omega⟩ : Fin 11) : Nat) : Int) = n from by show ((n.toNat : Nat) : Int) = n; omega] at this
    exact ⟨_, _, this.1, this.2⟩
  · refine ⟨0, false, ?_, ?_⟩
    · unfold impl_CountTerms.f
      rw [within_eq, decide_eq_false h, Option.bind_some, if_neg (by decide)]
    · unfold spec_CountTerms.f
      rw [l1In_eq, decide_eq_false h, Option.bind_some, if_neg (by decide)]
theorem row_tab (l : List Int) : ∀ (m i : Nat), i < m → laws_FnContinuantsSplit.row (tabL l m) (i : Int) = tabRow l i (l.length - i)
  | m + 1, i, h => by
    have hl := tabL_length l m
    unfold laws_FnContinuantsSplit.row
    rw [Int.toNat_natCast, tabL]
    by_cases c : i < m
    · have := row_tab l m i c
      unfold laws_FnContinuantsSplit.row at this
      rw [Int.toNat_natCast] at this
      rw [List.getD_eq_getElem?_getD, List.getElem?_append_left (by omega), ← List.getD_eq_getElem?_getD, this]
    · obtain rfl : i = m := by omega
      rw [List.getD_eq_getElem?_getD, List.getElem?_append_right (by omega), hl, Nat.sub_self]
      rfl
theorem row_any (l : List Int) (m : Nat) (i : Int) : (laws_FnContinuantsSplit.row (tabL l m) i).length ≤ l.length := by
  by_cases h : i.toNat < m
  · have := row_tab l m i.toNat h
    have e : laws_FnContinuantsSplit.row (tabL l m) i = laws_FnContinuantsSplit.row (tabL l m) (i.toNat : Int) := by unfold laws_FnContinuantsSplit.row; rw [Int.toNat_natCast]
    rw [e, this, tabRow_length]
    omega
  · unfold laws_FnContinuantsSplit.row
    rw [List.getD_eq_getElem?_getD, List.getElem?_eq_none (by rw [tabL_length]; omega)]
    simp
theorem tabRow_rd (l : List Int) (i : Nat) : ∀ (m j : Nat), j < m → rd (tabRow l i m) (j : Int) = contOf (-1) ((l.take (i + j + 1)).drop i)
  | m + 1, j, h => by
    have hl := tabRow_length l i m
    rw [tabRow]
    by_cases c : j < m
    · rw [rd_nat (by rw [List.length_append]; simp; omega), List.getElem_append_left (by omega), ← rd_nat (by omega)]
      exact tabRow_rd l i m j c
    · obtain rfl : j = m := by omega
      rw [rd_nat (by rw [List.length_append]; simp; omega), List.getElem_append_right (by omega)]
      simp [hl]
theorem seg_cons {l : List Int} {i j : Nat} (h : i < l.length) (hj : i < j) : (l.take j).drop i = l[i] :: (l.take j).drop (i + 1) := by
  rw [List.drop_eq_getElem_cons (by rw [List.length_take]; omega), List.getElem_take]
theorem seg_snoc {l : List Int} {i j : Nat} (h : j < l.length) (hj : i ≤ j) : (l.take (j + 1)).drop i = (l.take j).drop i ++ [l[j]] := by
  rw [List.take_succ_eq_append_getElem h, List.drop_append_of_le_length (by rw [List.length_take]; omega)]
theorem seg_nil (l : List Int) (i : Nat) : (l.take i).drop i = [] := List.drop_of_length_le (by rw [List.length_take]; omega)
theorem ok_of {l : List Int} (hT : isTerms l = true) {num den : Int} {seven : Bool} (hf : spec_FractionOfMinus.f 5000 l = some (num, den, seven)) :
    laws_FnContinuantsSplit.okB 5000 l ((tmP l 1).map wrap64) (contOf (-1) l) (tabL l l.length) num den seven := by
  obtain ⟨hn, hl⟩ := terms_mem hT
  have hK := contOf_K (s := -1) (.inr rfl) hn hl
  have hcont : ∀ x : List Int, x.length ≤ 10 → (∀ y ∈ x, -30 ≤ y ∧ y ≤ 30) → impl_ContinuantOf.f 5000 x = some (contOf (-1) x, true) := by
    intro x hx hy
    unfold impl_ContinuantOf.f
    have hxT : isTerms x = true := by
      unfold isTerms inAll
      simp only [Bool.and_eq_true, decide_eq_true_eq, List.all_eq_true]
      exact ⟨by omega, hy⟩
    rw [IsTermList_eq (by omega) (by omega), hxT, Option.bind_some, if_pos rfl, continuant_eq (-1) (by omega) (by omega)]
    rfl
  refine ⟨⟨l.reverse, ((fibN l.length : Nat) : Int), dBack_eq (by omega) (by omega), ?_, ?_, ?_⟩, ?_, tabL_length l _, by omega, fun i hi => ?_, fun t h1 ht => ?_, fun hs => ?_⟩
  · rw [hcont _ (by simpa using hn) (fun y hy => hl y (by simpa using hy)), contOf_wrap, K_rev, ← contOf_wrap]
  · exact (count_fin ⟨l.length, by omega⟩).1
  · rw [List.length_map, tmP_len]
  · have hlen := tlP_len l 1
    have hp2 : 2 ^ l.length ≤ 2 ^ 10 := Nat.pow_le_pow_right (by omega) hn
    have hl2 : ((tmP l 1).map wrap64).length ≤ 1024 := by rw [List.length_map]; show (tlP l 1).length + 1 ≤ 1024; omega
    rw [dSum_eq (by omega) (by omega), sum_wrap, tmP_sum, Int.one_mul, ← contOf_wrap]
  · rw [row_tab l l.length i hi]
    have hr := tabRow_length l i (l.length - i)
    have hrd := tabRow_rd l i (l.length - i)
    refine ⟨hr, ?_, fun h0 => ?_, fun j h1 hj => ?_⟩
    · have h0 := hrd 0 (by omega)
      rw [Int.natCast_zero] at h0
      rw [h0, show i + 0 + 1 = i + 1 from rfl, seg_cons hi (by omega), seg_nil, rd_nat hi, contOf_wrap]
      have := hl l[i] (List.getElem_mem hi)
      simp [K, kl]
      exact w64 (by omega) (by omega)
    · subst h0
      have h2 := hrd (l.length - 1) (by omega)
      rw [show ((l.length - 1 : Nat) : Int) = (l.length : Int) - 1 by omega] at h2
      rw [h2, show 0 + (l.length - 1) + 1 = l.length by omega, List.take_length, List.drop_zero]
    · rw [hr] at hj
      rw [show (i : Int) + 1 = ((i + 1 : Nat) : Int) by omega, row_tab l l.length (i + 1) (by omega)]
      have hrd2 := tabRow_rd l (i + 1) (l.length - (i + 1))
      have a1 := hrd (j - 1) (by omega)
      have a2 := hrd j (by omega)
      have a3 := hrd2 (j - 1) (by omega)
      rw [show ((j - 1 : Nat) : Int) = (j : Int) - 1 by omega] at a1 a3
      rw [a1, a2, a3]
      have e1 : (l.take (i + (j - 1) + 1)).drop i = l[i] :: (l.take (i + j)).drop (i + 1) := by rw [show i + (j - 1) + 1 = i + j by omega]; exact seg_cons hi (by omega)
      have e2 : (l.take (i + 1 + (j - 1) + 1)).drop (i + 1) = (l.take (i + j)).drop (i + 1) ++ [l[i + j]] := by rw [show i + 1 + (j - 1) + 1 = i + j + 1 by omega]; exact seg_snoc (by omega) (by omega)
      have e3 : (l.take (i + j + 1)).drop i = l[i] :: (l.take (i + j)).drop (i + 1) ++ [l[i + j]] := by rw [seg_cons hi (by omega), seg_snoc (by omega) (by omega)]; rfl
      have hd := det_wrap l[i] ((l.take (i + j)).drop (i + 1)) l[i + j]
      by_cases c : j = 1
      · rw [if_pos c, e1, e2, e3]
        subst c
        rw [seg_nil] at hd ⊢
        exact hd
      · have a4 := hrd2 (j - 2) (by omega)
        rw [show ((j - 2 : Nat) : Int) = (j : Int) - 2 by omega] at a4
        rw [if_neg c, a4, e1, e2, e3, show i + 1 + (j - 2) + 1 = i + j by omega]
        exact hd
  · have hs := split_wrap l t (by omega) ht
    refine ⟨_, _, _, _, ?_, hs⟩
    rw [impl_split (by omega) (by omega)]
    unfold splitOf
    rw [if_pos ⟨hT, by omega, by omega⟩, Int.toNat_natCast, show ((t : Int) - 1).toNat = t - 1 by omega, show ((t : Int) + 1).toNat = t + 1 by omega]
  · subst hs
    unfold spec_FractionOfMinus.f at hf
    rw [ctGood_eq (by omega) (by omega), hT, Option.bind_some, if_pos rfl] at hf
    by_cases h0 : (l.length : Int) = 0
    · rw [if_pos h0] at hf; cases hf
    · rw [if_neg h0] at hf
      obtain ⟨⟨a, b, c⟩, h1, h2⟩ := Option.bind_eq_some_iff.1 hf
      simp only [Option.some.injEq, Prod.mk.injEq] at h2
      obtain ⟨rfl, rfl, rfl⟩ := h2
      obtain ⟨hd, hpq0⟩ := fr_ok hl hn (by omega) h1
      have hpq : (a = K (-1) l ∧ b = K (-1) (l.drop 1)) ∨ (a = -K (-1) l ∧ b = -K (-1) (l.drop 1)) := hpq0
      have hd1 := drop_mem hl 1
      have hr : contOf (-1) (l.drop 1) = K (-1) (l.drop 1) := contOf_K (s := -1) (.inr rfl) (by rw [List.length_drop]; omega) hd1
      have b0 := K_small (s := -1) (.inr rfl) hn hl
      have b1 := K_small (s := -1) (.inr rfl) (l := l.drop 1) (by rw [List.length_drop]; omega) hd1
      refine ⟨_, hcont _ (by rw [List.length_drop]; omega) hd1, by omega, hd, ?_, ?_, ?_⟩
      · rw [hr, hK]
        rcases hpq with ⟨rfl, rfl⟩ | ⟨rfl, rfl⟩
        · rw [Int.mul_comm]
        · rw [Int.neg_mul, Int.neg_mul, Int.mul_comm]
      · rw [hK]
        by_cases e : a = K (-1) l
        · exact .inl e
        · refine .inr ⟨e, ?_⟩
          rw [w64 (by omega) (by omega)]
          omega
      · rw [hr]
        by_cases e : b = K (-1) (l.drop 1)
        · exact .inl e
        · refine .inr ⟨e, ?_⟩
          rw [w64 (by omega) (by omega)]
          omega
theorem frac_both {l : List Int} (hl : l.length ≤ 1000) : ∃ a b c, spec_FractionOfMinus.f 5000 l = some (a, b, c) ∧ impl_FractionOfMinus.f 5000 l = some (a, b, c) ∧ (c = true → isTerms l = true ∧ 0 < l.length) := by
  unfold spec_FractionOfMinus.f impl_FractionOfMinus.f impl_areFrom.f
  rw [ctGood_eq (by omega) (by omega), IsTermList_eq (by omega) (by omega)]
  cases hT : isTerms l with
  | false => exact ⟨0, 0, false, by simp, by simp, (fun h => by cases h)⟩
  | true =>
    simp only [Option.bind_some, if_true]
    by_cases h0 : l.length = 0
    · exact ⟨0, 0, false, by simp [h0], by simp [h0], (fun h => by cases h)⟩
    · obtain ⟨⟨a, b, c⟩, h1, h2⟩ := fraction_same (s := -1) (k := 5000) (.inr rfl) hT (by omega) (by omega)
      obtain ⟨m, hm, hmem, _⟩ := Min_eq (l := l) (k := 5000) (by omega) (by omega) (by omega)
      have hge := ((terms_mem hT).2 m hmem).1
      rw [if_neg (by omega), if_pos (by omega), hm, h1, h2]
      simp only [Option.bind_some]
      rw [decide_eq_true hge, if_pos rfl]
      exact ⟨a, b, c, rfl, rfl, fun _ => by first | exact ⟨rfl, by omega⟩ | exact ⟨trivial, by omega⟩⟩
theorem part1_ok {l : List Int} (hl : l.length ≤ 12) : laws_FnContinuantsSplit.part1 5000 l := by
  obtain ⟨a, b, c, f1, f2, f3⟩ := frac_both (l := l) (by omega)
  have hpl : (partsOf l).1.length ≤ 1024 := partsOf_len l
  have t1 := spec_terms (l := l) (k := 5000) (by omega) (by omega)
  have t2 := impl_terms (l := l) (k := 5000) (by omega) (by omega)
  have u1 := spec_tab (l := l) (k := 5000) (by omega) (by omega)
  have u2 := impl_tab (l := l) (k := 5000) (by omega) (by omega)
  have i1 : impl_IsTermList.f 5000 l = some (isTerms l) := IsTermList_eq (by omega) (by omega)
  have i2 : spec_ctGood.f 5000 l = some (isTerms l) := ctGood_eq (by omega) (by omega)
  have i3 : spec_IsTermList.f 5000 l = some (isTerms l) := by unfold spec_IsTermList.f; rw [i2]; rfl
  unfold partsOf at t1 t2 hpl
  unfold tabOf at u1 u2
  cases hT : isTerms l with
  | false =>
    rw [hT] at i1 i2 i3
    rw [hT, if_neg (by decide)] at t1 t2 u1 u2
    have hc : c = false := by
      cases c with
      | false => rfl
      | true => have := (f3 rfl).1; rw [hT] at this; cases this
    subst hc
    refine ⟨[], false, 0, 0, [], a, b, false, t2, t1, ?_, ?_, ?_, ?_, u2, u1, f2, f1, rfl, rfl, i1, i3, (fun h => by cases h), (fun h => by cases h)⟩
    · unfold impl_ContinuantOf.f; rw [i1]; rfl
    · unfold spec_ContinuantOf.f; rw [i2]; rfl
    · unfold impl_PlusContinuantOf.f; rw [i1]; rfl
    · unfold spec_PlusContinuantOf.f; rw [i2]; rfl
  | true =>
    rw [hT] at i1 i2 i3
    rw [hT, if_pos rfl] at t1 t2 u1 u2 hpl
    have hpl' : ((tmP l 1).map wrap64).length ≤ 1024 := hpl
    have hn := isTerms_len hT
    refine ⟨_, true, contOf (-1) l, contOf 1 l, _, a, b, c, t2, t1, ?_, ?_, ?_, ?_, u2, u1, f2, f1, dSame_self (by omega) (by omega), ?_, i1, i3, fun h => ⟨rfl, (f3 h).2⟩, fun _ => ok_of hT f1⟩
    · unfold impl_ContinuantOf.f; rw [i1, Option.bind_some, if_pos rfl, continuant_eq (-1) (by omega) (by omega)]; rfl
    · unfold spec_ContinuantOf.f; rw [i2, Option.bind_some, if_pos rfl, ctValue_eq (-1) (by omega) (by omega)]; rfl
    · unfold impl_PlusContinuantOf.f; rw [i1, Option.bind_some, if_pos rfl, continuant_eq 1 (by omega) (by omega)]; rfl
    · unfold spec_PlusContinuantOf.f; rw [i2, Option.bind_some, if_pos rfl, ctValue_eq 1 (by omega) (by omega)]; rfl
    · have h1 := tabL_length l l.length
      unfold laws_dLists.f
      rw [if_pos rfl]
      exact dLists_l0 (tabL l l.length) (by omega) (fun i => Nat.le_trans (row_any l l.length i) (by omega)) (tabL l l.length).length 5000 0 (by omega) (by omega)
theorem part2_ok {l : List Int} (hb : ∀ x ∈ l, 0 ≤ x ∧ x ≤ 255) : laws_FnContinuantsSplit.part2 5000 l := by
  obtain ⟨s, t, h1, hs⟩ := drawS_ok l hb (k := 5000) (by omega)
  obtain ⟨n, h2⟩ := drawC_ok l hb
  obtain ⟨q, i, j, h3, hq, hqi, hi, hj⟩ := drawE_ok l hb (k := 5000) (by omega)
  obtain ⟨c, b, c1, c2⟩ := count_any n
  obtain ⟨e, b2, he⟩ := resC q i j (by omega) (fun z hz => hqi _ (by rw [nth_get hz]; exact List.getElem_mem hz)) hi hj
  obtain ⟨e1, e2, e3⟩ := he 5000 (by omega)
  have hsl := splitOf_len s t
  exact ⟨s, t, (splitOf s t).1, (splitOf s t).2, n, c, b, q, i, j, e, b2, h1, impl_split (by omega) (by omega), spec_split (by omega) (by omega), dSame_self (by omega) (by omega), h2, c1, c2, h3, e2, e1, e3⟩
theorem FnContinuantsSplit : laws_FnContinuantsSplit.Pure := by
  intro l0 l1 _ h0 _ h1
  have hw : ∀ l : List Int, (∀ x ∈ l, (Lit.int .u8 x).wf = true) → ∀ x ∈ l, 0 ≤ x ∧ x ≤ 255 := by
    intro l h x hx
    have := h x hx
    simp [Lit.wf, IntKind.min, IntKind.max, IntKind.signed, IntKind.bits] at this
    omega
  refine ⟨5000, ?_⟩
  have hbig : ∃ b, laws_big.f l0 l1 = some b := by
    unfold laws_big.f
    split <;> exact ⟨_, rfl⟩
  obtain ⟨b, hbig⟩ := hbig
  cases b with
  | true => exact Or.inl hbig
  | false =>
    obtain ⟨l, hd, hl⟩ := drawT_ok l0 (hw l0 h0) (k := 5000) (by omega)
    exact Or.inr ⟨hbig, ⟨l, hd, part1_ok hl⟩, part2_ok (hw l1 h1)⟩

end Go.Proofs.YtcfcnnnkpdhecaaGreat.Pure
