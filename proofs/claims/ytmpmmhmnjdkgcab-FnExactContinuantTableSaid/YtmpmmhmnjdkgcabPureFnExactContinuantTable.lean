/- The plain statement of FnExactContinuantTable, over numbers and lists: the program's answer is the reference's. -/
import Derived.Test.YtmpmmhmnjdkgcabPFnExactContinuantTablex
set_option linter.unusedVariables false
set_option linter.unusedSimpArgs false
namespace Go.Proofs.Ytmpmmhmnjdkgcab.Pure
open Go.RowKit Go.Proofs.Ytmpmmhmnjdkgcab.PFnExactContinuantTable Go.Proofs.YtmpmmhmnjdkgcabW.PrintWords Go.Proofs.YtmpmmhmnjdkgcabW.PrintLast

theorem w64 {x : Int} (h0 : -9223372036854775808 ≤ x) (h1 : x ≤ 9223372036854775807) : wrap64 x = x := by
  unfold wrap64
  omega
theorem wf_i64 {x : Int} (h : (Lit.int .i64 x).wf = true) : -9223372036854775808 ≤ x ∧ x ≤ 9223372036854775807 := by
  simp [Lit.wf, IntKind.min, IntKind.max, IntKind.signed, IntKind.bits] at h
  omega

theorem rd_nat {l : List Int} {i : Nat} (h : i < l.length) : rd l (i : Int) = l[i] := by
  unfold rd
  rw [Int.toNat_natCast, List.getD_eq_getElem?_getD, List.getElem?_eq_getElem h]
  rfl
theorem rd_drop {l : List Int} {i : Nat} (h : i < l.length) : l.drop i = rd l (i : Int) :: l.drop (i + 1) := by
  rw [rd_nat h, ← List.drop_eq_getElem_cons h]
theorem wsucc {i n : Nat} (h : i < n) (hn : n ≤ 9223372036854775807) : wrap64 ((i : Int) + 1) = ((i + 1 : Nat) : Int) := by
  rw [w64 (by omega) (by omega)]
  omega
theorem ite_t {α : Sort _} {a b : α} : (if true = true then a else b) = a := if_pos rfl
theorem ite_f {α : Sort _} {a b : α} : (if false = true then a else b) = b := if_neg (by decide)
theorem fuel {k d : Nat} (h : d < k) : ∃ m, k = m + 1 ∧ d ≤ m := ⟨k - 1, by omega, by omega⟩

theorem l1In_eq (a b c : Int) : spec_l1In.f a b c = some (decide (b ≤ a ∧ a ≤ c)) := by
  unfold spec_l1In.f
  split <;> simp <;> omega

def inAll (lo hi : Int) (l : List Int) : Bool := l.all fun x => decide (lo ≤ x ∧ x ≤ hi)
theorem l1All_l0 (lo up : Int) (l : List Int) (hl : l.length ≤ 9223372036854775807) : ∀ (d k i : Nat), i + d = l.length → d < k → spec_l1All.l0 k lo up l (l.length : Int) (i : Int) = some (inAll lo up (l.drop i)) := by
  intro d
  induction d with
  | zero =>
    intro k i hi hk
    obtain ⟨k, rfl, _⟩ := fuel hk
    simp only [spec_l1All.l0]
    rw [if_neg (by omega), List.drop_of_length_le (by omega)]
    rfl
  | succ d ih =>
    intro k i hi hk
    obtain ⟨k, rfl, hk⟩ := fuel hk
    simp only [spec_l1All.l0]
    rw [if_pos (by omega), if_pos (by omega), if_pos (by omega), l1In_eq, Option.bind_some, wsucc (n := l.length) (by omega) hl, rd_drop (by omega)]
    by_cases hx : lo ≤ rd l i ∧ rd l i ≤ up
    · rw [decide_eq_true hx, ite_t, ih k (i + 1) (by omega) (by omega)]
      simp [inAll, hx]
    · rw [decide_eq_false hx, ite_f]
      simp [inAll]
      omega
theorem l1All_eq {l : List Int} {k : Nat} (lo hi : Int) (hl : l.length ≤ 9223372036854775807) (hk : l.length < k) : spec_l1All.f k l lo hi = some (inAll lo hi l) := by
  unfold spec_l1All.f
  exact l1All_l0 lo hi l hl l.length k 0 (by omega) hk

theorem within_eq (a b c : Int) : impl_within.f a b c = some (decide (b ≤ a ∧ a ≤ c)) := by
  unfold impl_within.f
  split <;> simp <;> omega

def isTerms (l : List Int) : Bool := decide ((l.length : Int) ≤ 10) && inAll (-30) 30 l
theorem ctGood_eq {l : List Int} {k : Nat} (hl : l.length ≤ 9223372036854775807) (hk : l.length < k) : spec_ctGood.f k l = some (isTerms l) := by
  unfold spec_ctGood.f isTerms
  by_cases h : (l.length : Int) ≤ 10
  · rw [if_pos h, l1All_eq _ _ hl hk]
    simp [h]
  · rw [if_neg h]
    simp [h]
theorem idx_terms (l : List Int) (hl : l.length ≤ 9223372036854775807) : ∀ (d k i : Nat), i + d = l.length → d < k → ∃ j : Int, slices_IndexFunc_int_int__at_impl_IsTermList_1.l0 k l (l.length : Int) (i : Int) = some j ∧ decide (j ≥ 0) = !(inAll (-30) 30 (l.drop i)) := by
  intro d
  induction d with
  | zero =>
    intro k i hi hk
    obtain ⟨k, rfl, _⟩ := fuel hk
    simp only [slices_IndexFunc_int_int__at_impl_IsTermList_1.l0]
    rw [if_neg (by omega), List.drop_of_length_le (by omega)]
    exact ⟨-1, rfl, rfl⟩
  | succ d ih =>
    intro k i hi hk
    obtain ⟨k, rfl, hk⟩ := fuel hk
    simp only [slices_IndexFunc_int_int__at_impl_IsTermList_1.l0]
    rw [if_pos (by omega), if_pos (by omega), if_pos (by omega), wsucc (n := l.length) (by omega) hl, rd_drop (by omega)]
    unfold impl_IsTermList_1.f
    rw [within_eq, Option.bind_some, Option.bind_some]
    by_cases hx : -30 ≤ rd l i ∧ rd l i ≤ 30
    · rw [decide_eq_true hx, Bool.not_true, ite_f]
      obtain ⟨j, hj, he⟩ := ih k (i + 1) (by omega) (by omega)
      refine ⟨j, hj, ?_⟩
      rw [he]
      simp [inAll, hx]
    · rw [decide_eq_false hx, Bool.not_false, ite_t]
      refine ⟨_, rfl, ?_⟩
      rw [decide_eq_true (by omega)]
      simp [inAll]
      omega
theorem IsTermList_eq {l : List Int} {k : Nat} (hl : l.length ≤ 9223372036854775807) (hk : l.length < k) : impl_IsTermList.f k l = some (isTerms l) := by
  unfold impl_IsTermList.f isTerms
  by_cases h : (l.length : Int) ≤ 10
  · rw [if_pos h]
    unfold slices_ContainsFunc_int_int__at_impl_IsTermList_1.f slices_IndexFunc_int_int__at_impl_IsTermList_1.f
    obtain ⟨j, hj, he⟩ := idx_terms l hl l.length k 0 (by omega) hk
    rw [Int.natCast_zero] at hj
    rw [hj, Option.bind_some, Option.bind_some, he]
    simp [h]
  · rw [if_neg h]
    simp [h]

def contStep (s : Int) (p : Int × Int) (x : Int) : Int × Int := (p.2, wrap64 (wrap64 (x * p.2) + wrap64 (s * p.1)))
def contOf (s : Int) (l : List Int) : Int := (l.foldl (contStep s) (0, 1)).2
theorem ctValue_l0 (s : Int) (l : List Int) (hl : l.length ≤ 9223372036854775807) : ∀ (d k i : Nat) (p q : Int), i + d = l.length → d < k →
    spec_ctValue.l0 k s p q l (l.length : Int) (i : Int) = some ((l.drop i).foldl (contStep s) (p, q)).2 := by
  intro d
  induction d with
  | zero =>
    intro k i p q hi hk
    obtain ⟨k, rfl, _⟩ := fuel hk
    simp only [spec_ctValue.l0]
    rw [if_neg (by omega), List.drop_of_length_le (by omega)]
    rfl
  | succ d ih =>
    intro k i p q hi hk
    obtain ⟨k, rfl, hk⟩ := fuel hk
    simp only [spec_ctValue.l0]
    rw [if_pos (by omega), if_pos (by omega), if_pos (by omega), wsucc (n := l.length) (by omega) hl, ih k (i + 1) _ _ (by omega) (by omega), rd_drop (l := l) (i := i) (by omega)]
    rfl
theorem ctValue_eq {l : List Int} {k : Nat} (s : Int) (hl : l.length ≤ 9223372036854775807) (hk : l.length < k) : spec_ctValue.f k l s = some (contOf s l) := by
  unfold spec_ctValue.f
  exact ctValue_l0 s l hl l.length k 0 0 1 (by omega) hk
theorem continuant_l0 (s : Int) (l : List Int) : ∀ (k : Nat) (p q i : Int), impl_continuant.l0 k s p q l (l.length : Int) i = spec_ctValue.l0 k s p q l (l.length : Int) i := by
  intro k
  induction k with
  | zero => intro p q i; rfl
  | succ k ih =>
    intro p q i
    simp only [impl_continuant.l0, spec_ctValue.l0, ih]
theorem continuant_eq {l : List Int} {k : Nat} (s : Int) (hl : l.length ≤ 9223372036854775807) (hk : l.length < k) : impl_continuant.f k l s = some (contOf s l) := by
  rw [← ctValue_eq s hl hk]
  unfold spec_ctValue.f impl_continuant.f
  exact continuant_l0 s l k 0 1 0

theorem eqIntS_l0 (l : List Int) (hl : l.length ≤ 9223372036854775807) : ∀ (d k i : Nat), i + d = l.length → d < k → laws_eqIntS.l0 k l l (i : Int) = some true := by
  intro d
  induction d with
  | zero =>
    intro k i hi hk
    obtain ⟨k, rfl, _⟩ := fuel hk
    simp only [laws_eqIntS.l0]
    rw [if_neg (by omega)]
  | succ d ih =>
    intro k i hi hk
    obtain ⟨k, rfl, hk⟩ := fuel hk
    simp only [laws_eqIntS.l0]
    rw [if_pos (by omega), if_pos (by omega), if_pos (by omega), if_pos trivial, wsucc (n := l.length) (by omega) hl]
    exact ih k (i + 1) (by omega) (by omega)
theorem eqIntS_self {l : List Int} {k : Nat} (hl : l.length ≤ 9223372036854775807) (hk : l.length < k) : laws_eqIntS.f k l l = some true := by
  unfold laws_eqIntS.f
  rw [if_pos rfl]
  exact eqIntS_l0 l hl l.length k 0 (by omega) hk

theorem toIntS_l0 (l : List Int) (hl : l.length ≤ 9223372036854775807) : ∀ (d k i : Nat) (m : List Int), i + d = l.length → d < k → m.length = l.length → m.take i = l.take i →
    laws_toIntS.l0 k l m (i : Int) = some l := by
  intro d
  induction d with
  | zero =>
    intro k i m hi hk hm ht
    obtain ⟨k, rfl, _⟩ := fuel hk
    simp only [laws_toIntS.l0]
    rw [if_neg (by omega)]
    rw [List.take_of_length_le (by omega), List.take_of_length_le (by omega)] at ht
    rw [ht]
  | succ d ih =>
    intro k i m hi hk hm ht
    obtain ⟨k, rfl, hk⟩ := fuel hk
    simp only [laws_toIntS.l0]
    rw [if_pos (by omega), if_pos (by omega), if_pos (by omega), wsucc (n := l.length) (by omega) hl, Int.toNat_natCast]
    refine ih k (i + 1) _ (by omega) (by omega) (by rw [List.length_set]; exact hm) ?_
    rw [rd_nat (by omega)]
    rw [List.take_succ_eq_append_getElem (by rw [List.length_set]; omega), List.take_succ_eq_append_getElem (by omega), List.take_set_of_le (by omega), ht, List.getElem_set_self]
theorem toIntS_eq {l : List Int} {k : Nat} (hl : l.length ≤ 1048576) (hk : l.length < k) : laws_toIntS.f k l = some l := by
  unfold laws_toIntS.f
  rw [if_pos (by omega), if_pos (by omega), Int.toNat_natCast]
  exact toIntS_l0 l (by omega) l.length k 0 _ (by omega) hk (by simp) (by simp)

def nthL (l : List (List Int)) (i : Nat) : List Int := l.getD i []
theorem rdL_nth (l : List (List Int)) (i : Nat) : rd_L1 l (i : Int) = nthL l i := rfl
theorem nthL_get {l : List (List Int)} {i : Nat} (h : i < l.length) : nthL l i = l[i] := by
  unfold nthL
  rw [List.getD_eq_getElem?_getD, List.getElem?_eq_getElem h]
  rfl
theorem rdL_drop {l : List (List Int)} {i : Nat} (h : i < l.length) : l.drop i = nthL l i :: l.drop (i + 1) := by
  rw [nthL_get h, ← List.drop_eq_getElem_cons h]
theorem nthL_mem {l : List (List Int)} {i : Nat} (h : i < l.length) : nthL l i ∈ l := by
  rw [nthL_get h]
  exact List.getElem_mem h
def sumLen : List (List Int) → Nat
  | [] => 0
  | y :: l => y.length + sumLen l
theorem sumLen_mem {l : List (List Int)} {y : List Int} (h : y ∈ l) : y.length ≤ sumLen l := by
  induction l with
  | nil => exact absurd h List.not_mem_nil
  | cons z l ih =>
    rw [sumLen]
    rcases List.mem_cons.1 h with rfl | h
    · omega
    · have := ih h
      omega
theorem eqIntSS_l0 (l : List (List Int)) (hb : l.length ≤ 1048576) (hw : ∀ y ∈ l, y.length ≤ 1048576) (B : Nat) (hB : ∀ y ∈ l, y.length ≤ B) : ∀ (d k i : Nat), i + d = l.length → d + B < k → laws_eqIntSS.l0 k l l (i : Int) = some true := by
  intro d
  induction d with
  | zero =>
    intro k i hi hk
    obtain ⟨k, rfl, _⟩ := fuel hk
    simp only [laws_eqIntSS.l0]
    rw [if_neg (by omega)]
  | succ d ih =>
    intro k i hi hk
    obtain ⟨k, rfl⟩ : ∃ m, k = m + 1 := ⟨k - 1, by omega⟩
    have hm := nthL_mem (l := l) (i := i) (by omega)
    simp only [laws_eqIntSS.l0]
    rw [if_pos (by omega), if_pos (by omega), if_pos (by omega), rdL_nth, eqIntS_self (by have := hw _ hm; omega) (by have := hB _ hm; omega), Option.bind_some, if_pos rfl, wsucc (n := l.length) (by omega) (by omega)]
    exact ih k (i + 1) (by omega) (by omega)
theorem eqIntSS_self {l : List (List Int)} (hb : l.length ≤ 1048576) (hs : sumLen l ≤ 1048576) {k : Nat} (hk : l.length + sumLen l < k) : laws_eqIntSS.f k l l = some true := by
  unfold laws_eqIntSS.f
  rw [if_pos rfl, ← Int.natCast_zero]
  exact eqIntSS_l0 l hb (fun y hy => by have := sumLen_mem hy; omega) (sumLen l) (fun y hy => sumLen_mem hy) l.length k 0 (by omega) (by omega)

/-- The continuants of the terms from i on, the first m of them. -/
def tabRow (l : List Int) (i : Nat) : Nat → List Int
  | 0 => []
  | m + 1 => tabRow l i m ++ [contOf (-1) ((l.take (i + m + 1)).drop i)]
theorem tabRow_length (l : List Int) (i : Nat) : ∀ m, (tabRow l i m).length = m
  | 0 => rfl
  | m + 1 => by rw [tabRow, List.length_append, tabRow_length l i m]; rfl
def tabL (l : List Int) : Nat → List (List Int)
  | 0 => []
  | m + 1 => tabL l m ++ [tabRow l m (l.length - m)]
theorem tabL_length (l : List Int) : ∀ m, (tabL l m).length = m
  | 0 => rfl
  | m + 1 => by rw [tabL, List.length_append, tabL_length l m]; rfl
theorem sumLen_app (a b : List (List Int)) : sumLen (a ++ b) = sumLen a + sumLen b := by
  induction a with
  | nil => simp [sumLen]
  | cons x a ih => rw [List.cons_append, sumLen, sumLen, ih]; omega
theorem tabL_sum (l : List Int) : ∀ m, sumLen (tabL l m) ≤ m * l.length
  | 0 => by simp [tabL, sumLen]
  | m + 1 => by
    have := tabL_sum l m
    rw [tabL, sumLen_app, sumLen, sumLen, tabRow_length, Nat.succ_mul]
    omega
theorem tab_l1 (l : List Int) (hl : l.length ≤ 10) (X : List (List Int)) (hX : X.length ≤ 20) (i : Nat) (hi : i < l.length) (y z : Int) : ∀ (d k m : Nat), i + m + d = l.length → 20 ≤ k →
    spec_ContinuantTable.l1 (k + d + 1) l X (i : Int) (tabRow l i m) ((i + m + 1 : Nat) : Int) y z = spec_ContinuantTable.l0 k l (X ++ [tabRow l i (l.length - i)]) y (wrap64 (z + 1)) := by
  intro d
  induction d with
  | zero =>
    intro k m hm hk
    simp only [spec_ContinuantTable.l1]
    rw [if_neg (by omega), if_pos (by omega), show l.length - i = m by omega]
  | succ d ih =>
    intro k m hm hk
    obtain ⟨q, hq⟩ : ∃ q, q = k + d + 1 := ⟨_, rfl⟩
    have hr := tabRow_length l i m
    have hc : spec_ctValue.f q (List.drop i (List.take (i + m + 1) l)) (-1) = some (contOf (-1) ((l.take (i + m + 1)).drop i)) := ctValue_eq (-1) (by rw [List.length_drop, List.length_take]; omega) (by rw [List.length_drop, List.length_take]; omega)
    rw [show k + (d + 1) + 1 = q + 1 by omega]
    simp only [spec_ContinuantTable.l1]
    rw [if_pos (by omega), if_pos (by omega), if_pos (by omega), Int.toNat_natCast, Int.toNat_natCast, hc, Option.bind_some, if_pos (by omega), w64 (x := ((i + m + 1 : Nat) : Int) + 1) (by omega) (by omega), show ((i + m + 1 : Nat) : Int) + 1 = ((i + (m + 1) + 1 : Nat) : Int) by omega, hq]
    exact ih k (m + 1) (by omega) hk
theorem tab_l0 (l : List Int) (hl : l.length ≤ 10) : ∀ (d k i : Nat), i + d = l.length → 30 * d + 30 ≤ k →
    spec_ContinuantTable.l0 k l (tabL l i) (l.length : Int) (i : Int) = some (tabL l l.length, true) := by
  intro d
  induction d with
  | zero =>
    intro k i hi hk
    obtain ⟨k, rfl⟩ : ∃ m, k = m + 1 := ⟨k - 1, by omega⟩
    simp only [spec_ContinuantTable.l0]
    rw [if_neg (by omega), show i = l.length by omega]
  | succ d ih =>
    intro k i hi hk
    obtain ⟨k, rfl⟩ : ∃ m, k = m + 1 := ⟨k - 1, by omega⟩
    obtain ⟨m, hm⟩ : ∃ m, k = m + (l.length - i) + 1 := ⟨k - (l.length - i) - 1, by omega⟩
    have hx := tabL_length l i
    have h := tab_l1 l hl (tabL l i) (by omega) i (by omega) (l.length : Int) (i : Int) (l.length - i) m 0 (by omega) (by omega)
    simp only [spec_ContinuantTable.l0]
    rw [if_pos (by omega), w64 (x := (i : Int) + 1) (by omega) (by omega), hm]
    refine h.trans ?_
    rw [w64 (by omega) (by omega)]
    exact ih m (i + 1) (by omega) (by omega)
theorem tab_same (l : List Int) : ∀ k, (∀ X y z, impl_ContinuantTable.l0 k l X y z = spec_ContinuantTable.l0 k l X y z) ∧ (∀ X a b c y z, impl_ContinuantTable.l1 k l X a b c y z = spec_ContinuantTable.l1 k l X a b c y z) := by
  intro k
  induction k with
  | zero => exact ⟨fun _ _ _ => rfl, fun _ _ _ _ _ _ => rfl⟩
  | succ k ih =>
    have hc : ∀ x, impl_continuant.f k x (-1) = spec_ctValue.f k x (-1) := by
      intro x
      unfold impl_continuant.f spec_ctValue.f
      exact continuant_l0 (-1) x k 0 1 0
    refine ⟨fun X y z => ?_, fun X a b c y z => ?_⟩
    · simp only [impl_ContinuantTable.l0, spec_ContinuantTable.l0, ih.2]
    · simp only [impl_ContinuantTable.l1, spec_ContinuantTable.l1, hc, ih.1, ih.2]
/-- What both tell of a list. -/
def tabOf (l : List Int) : List (List Int) × Bool := if isTerms l = true then (tabL l l.length, true) else ([], false)
theorem isTerms_len {l : List Int} (h : isTerms l = true) : l.length ≤ 10 := by
  unfold isTerms at h
  rw [Bool.and_eq_true, decide_eq_true_iff] at h
  omega
theorem tabOf_size (l : List Int) : (tabOf l).1.length ≤ 10 ∧ sumLen (tabOf l).1 ≤ 100 := by
  unfold tabOf
  split
  · rename_i h
    have h1 := isTerms_len h
    have h2 := tabL_sum l l.length
    have h3 := Nat.mul_le_mul h1 h1
    exact ⟨by show (tabL l l.length).length ≤ 10; rw [tabL_length]; exact h1, by show sumLen (tabL l l.length) ≤ 100; omega⟩
  · exact ⟨by simp, by simp [sumLen]⟩
theorem spec_tab {l : List Int} (hl : l.length ≤ 1048576) {k : Nat} (hk : l.length + 400 ≤ k) : spec_ContinuantTable.f k l = some (tabOf l) := by
  unfold spec_ContinuantTable.f tabOf
  rw [ctGood_eq (by omega) (by omega), Option.bind_some]
  cases h : isTerms l with
  | false => rfl
  | true =>
    have h1 := isTerms_len h
    rw [if_pos rfl, if_pos rfl]
    exact tab_l0 l h1 l.length k 0 (by omega) (by omega)
theorem impl_tab {l : List Int} (hl : l.length ≤ 1048576) {k : Nat} (hk : l.length + 400 ≤ k) : impl_ContinuantTable.f k l = some (tabOf l) := by
  rw [← spec_tab hl hk]
  unfold spec_ContinuantTable.f impl_ContinuantTable.f
  rw [ctGood_eq (by omega) (by omega), IsTermList_eq (by omega) (by omega), Option.bind_some, Option.bind_some, (tab_same l k).1]

def marked : Nat → Int → List Int
  | 0, _ => []
  | n + 1, j => j :: marked n (j + 1)
theorem marked_length : ∀ n j, (marked n j).length = n
  | 0, _ => rfl
  | n + 1, j => by rw [marked, List.length_cons, marked_length n]
theorem markIntS_l0 : ∀ (d k i : Nat) (l : List Int) (j : Int), i + d = l.length → d < k → l.length ≤ 1000000000 → 0 ≤ j → j + d ≤ 4000000000 →
    laws_markIntS.l0 k l j (i : Int) = some (j + d, l.take i ++ marked d j) := by
  intro d
  induction d with
  | zero =>
    intro k i l j hi hk hl hj hb
    obtain ⟨k, rfl, _⟩ := fuel hk
    simp only [laws_markIntS.l0]
    rw [if_neg (by omega), List.take_of_length_le (by omega)]
    simp [marked]
  | succ d ih =>
    intro k i l j hi hk hl hj hb
    obtain ⟨k, rfl, hk⟩ := fuel hk
    simp only [laws_markIntS.l0]
    rw [if_pos (by omega), if_pos (by omega), wsucc (n := l.length) (by omega) (by omega), w64 (x := j + 1) (by omega) (by omega), Int.toNat_natCast,
      ih k (i + 1) _ (j + 1) (by rw [List.length_set]; omega) (by omega) (by rw [List.length_set]; omega) (by omega) (by omega)]
    rw [List.take_succ_eq_append_getElem (by rw [List.length_set]; omega), List.getElem_set_self, List.take_set_of_le (by omega), marked, List.append_assoc]
    congr 2
    omega
theorem markIntS_eq {l : List Int} {k : Nat} (hk : l.length < k) (hl : l.length ≤ 1000000000) : laws_markIntS.f k l 1 = some (1 + (l.length : Int), marked l.length 1) := by
  unfold laws_markIntS.f
  have := markIntS_l0 l.length k 0 l 1 (by omega) hk hl (by omega) (by omega)
  simpa using this
theorem heldIntS_l0 (p : List Int) : ∀ (d k : Nat) (p : List Int) (j : Int), d < k → p.length + d ≤ 1000000000 → 0 ≤ j → j + d ≤ 4000000000 →
    laws_heldIntS.l0 k (p ++ marked d j) j (p.length : Int) = some (j + d) := by
  intro d
  induction d with
  | zero =>
    intro k p j hk hl hj hb
    obtain ⟨k, rfl, _⟩ := fuel hk
    simp only [laws_heldIntS.l0]
    rw [if_neg (by simp [marked])]
    simp
  | succ d ih =>
    intro k p j hk hl hj hb
    obtain ⟨k, rfl, hk⟩ := fuel hk
    simp only [laws_heldIntS.l0]
    have hlen : (p ++ marked (d + 1) j).length = p.length + (d + 1) := by rw [List.length_append, marked_length]
    have hr : rd (p ++ marked (d + 1) j) (p.length : Int) = j := by
      rw [rd_nat (by omega), List.getElem_append_right (Nat.le_refl _)]
      simp [marked]
    rw [if_pos (by omega), if_pos (by omega), if_pos hr, wsucc (n := p.length + (d + 1)) (by omega) (by omega), w64 (x := j + 1) (by omega) (by omega)]
    have h := ih k (p ++ [j]) (j + 1) (by omega) (by rw [List.length_append]; simp; omega) (by omega) (by omega)
    rw [List.length_append, List.length_singleton, List.append_assoc] at h
    rw [marked]
    refine h.trans ?_
    congr 1
    omega
theorem heldIntS_eq {n k : Nat} (hk : n < k) (hl : n ≤ 1000000000) : laws_heldIntS.f k (marked n 1) 1 = some (1 + (n : Int)) := by
  unfold laws_heldIntS.f
  exact heldIntS_l0 [] n k [] 1 hk (by simpa using hl) (by omega) (by omega)

def markedL : List (List Int) → Int → List (List Int)
  | [], _ => []
  | y :: l, j => marked y.length j :: markedL l (j + y.length)
theorem getD_mid (p l : List (List Int)) (y : List Int) : (p ++ y :: l).getD ((p.length : Int)).toNat [] = y := by
  rw [Int.toNat_natCast, List.getD_eq_getElem?_getD, List.getElem?_append_right (Nat.le_refl _)]
  simp
theorem set_mid (p l : List (List Int)) (y z : List Int) : (p ++ y :: l).set ((p.length : Int)).toNat z = (p ++ [z]) ++ l := by
  rw [Int.toNat_natCast, List.set_append_right _ _ (Nat.le_refl _)]
  simp
theorem markIntSS_l0 (B : Nat) : ∀ (l p : List (List Int)) (k : Nat) (j : Int), l.length + B < k → p.length + l.length ≤ 1000000000 → sumLen l ≤ 1000000000 → (∀ y ∈ l, y.length ≤ B) → 0 ≤ j → j + sumLen l ≤ 4000000000 →
    laws_markIntSS.l0 k (p ++ l) j (p.length : Int) = some (j + sumLen l, p ++ markedL l j) := by
  intro l
  induction l with
  | nil =>
    intro p k j hk hl hs hB h0 h1
    obtain ⟨k, rfl⟩ : ∃ m, k = m + 1 := ⟨k - 1, by omega⟩
    simp only [laws_markIntSS.l0]
    rw [if_neg (by simp)]
    simp [markedL, sumLen]
  | cons y l ih =>
    intro p k j hk hl hs hB h0 h1
    obtain ⟨k, rfl⟩ : ∃ m, k = m + 1 := ⟨k - 1, by omega⟩
    rw [List.length_cons] at hk hl
    rw [sumLen] at hs h1
    have hy := hB y (List.mem_cons_self ..)
    have hm : laws_markIntS.f k y j = some (j + (y.length : Int), marked y.length j) := by
      unfold laws_markIntS.f
      have := markIntS_l0 y.length k 0 y j (by omega) (by omega) (by omega) h0 (by omega)
      simpa using this
    have := ih (p ++ [marked y.length j]) k (j + y.length) (by omega) (by rw [List.length_append]; simp; omega) (by omega) (fun z hz => hB z (List.mem_cons_of_mem _ hz)) (by omega) (by omega)
    simp only [laws_markIntSS.l0]
    rw [if_pos (by rw [List.length_append, List.length_cons]; omega), if_pos (by omega), getD_mid, hm, Option.bind_some, set_mid, wsucc (n := p.length + l.length + 1) (by omega) (by omega)]
    rw [List.length_append, List.length_singleton] at this
    rw [this, markedL, sumLen, List.append_assoc, List.singleton_append]
    congr 2
    omega
theorem heldIntSS_l0 (B : Nat) : ∀ (l p : List (List Int)) (k : Nat) (j : Int), l.length + B < k → p.length + l.length ≤ 1000000000 → sumLen l ≤ 1000000000 → (∀ y ∈ l, y.length ≤ B) → 0 ≤ j → j + sumLen l ≤ 4000000000 →
    laws_heldIntSS.l0 k (p ++ markedL l j) j (p.length : Int) = some (j + sumLen l) := by
  intro l
  induction l with
  | nil =>
    intro p k j hk hl hs hB h0 h1
    obtain ⟨k, rfl⟩ : ∃ m, k = m + 1 := ⟨k - 1, by omega⟩
    simp only [laws_heldIntSS.l0]
    rw [if_neg (by simp [markedL])]
    simp [sumLen]
  | cons y l ih =>
    intro p k j hk hl hs hB h0 h1
    obtain ⟨k, rfl⟩ : ∃ m, k = m + 1 := ⟨k - 1, by omega⟩
    rw [List.length_cons] at hk hl
    rw [sumLen] at hs h1
    have hy := hB y (List.mem_cons_self ..)
    have hm : laws_heldIntS.f k (marked y.length j) j = some (j + (y.length : Int)) := by
      unfold laws_heldIntS.f
      exact heldIntS_l0 [] y.length k [] j (by omega) (by simp; omega) h0 (by omega)
    have := ih (p ++ [marked y.length j]) k (j + y.length) (by omega) (by rw [List.length_append]; simp; omega) (by omega) (fun z hz => hB z (List.mem_cons_of_mem _ hz)) (by omega) (by omega)
    have e : rd_L1 (p ++ markedL (y :: l) j) (p.length : Int) = marked y.length j := getD_mid p _ _
    have hlen : (p ++ markedL (y :: l) j).length = p.length + (markedL l (j + y.length)).length + 1 := by rw [markedL, List.length_append, List.length_cons]; omega
    simp only [laws_heldIntSS.l0]
    rw [e, if_pos (by omega), if_pos (by omega), hm, Option.bind_some, if_neg (by omega), wsucc (n := p.length + l.length + 1) (by omega) (by omega)]
    rw [List.length_append, List.length_singleton, List.append_assoc, List.singleton_append] at this
    rw [markedL, this, sumLen]
    congr 1
    omega
theorem markSS (l : List (List Int)) (hb : l.length ≤ 1048576) (hs : sumLen l ≤ 1048576) : ∀ k, l.length + sumLen l < k → laws_markIntSS.f k l 1 = some (1 + (sumLen l : Int), markedL l 1) ∧ laws_heldIntSS.f k (markedL l 1) 1 = some (1 + (sumLen l : Int)) := by
  intro k hk
  have h1 := markIntSS_l0 (sumLen l) l [] k 1 hk (by simp; omega) (by omega) (fun y hy => sumLen_mem hy) (by omega) (by omega)
  have h2 := heldIntSS_l0 (sumLen l) l [] k 1 hk (by simp; omega) (by omega) (fun y hy => sumLen_mem hy) (by omega) (by omega)
  exact ⟨h1, h2⟩
theorem markSS_m (l : List (List Int)) (hb : l.length ≤ 1048576) (hs : sumLen l ≤ 1048576) : ∀ k, l.length + sumLen l < k → laws_markIntSS.f k l 1 = some (1 + (sumLen l : Int), markedL l 1) := fun k hk =>
  markIntSS_l0 (sumLen l) l [] k 1 hk (by simp; omega) (by omega) (fun y hy => sumLen_mem hy) (by omega) (by omega)

theorem FnExactContinuantTable : laws_FnExactContinuantTable.Pure := by
  intro l _ hw
  refine ⟨l.length + 4000, ?_⟩
  unfold laws_FnExactContinuantTable.f
  by_cases h : (l.length : Int) > 1048576
  · exact Or.inl h
  · have hl : l.length ≤ 1048576 := by omega
    obtain ⟨hq1, hq2⟩ := tabOf_size l
    have hm := markSS (tabOf l).1 (by omega) (by omega) (l.length + 4000) (by omega)
    exact Or.inr ⟨h, l, (tabOf l).1, (tabOf l).2, _, _, _, _, toIntS_eq hl (by omega), spec_tab hl (by omega), impl_tab hl (by omega), eqIntSS_self (by omega) (by omega) (by omega), eqIntS_self (by omega) (by omega), markIntS_eq (by omega) (by omega), by omega, hm.1, hm.2, by omega⟩

end Go.Proofs.Ytmpmmhmnjdkgcab.Pure
