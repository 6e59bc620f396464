/- The plain statement of FnExactSplitContinuant, over numbers and lists: the program's answer is the reference's. -/
import Derived.Test.YtmpmmhmnjdkgcaaPFnExactSplitContinuantx
set_option linter.unusedVariables false
set_option linter.unusedSimpArgs false
namespace Go.Proofs.Ytmpmmhmnjdkgcaa.Pure
open Go.RowKit Go.Proofs.Ytmpmmhmnjdkgcaa.PFnExactSplitContinuant Go.Proofs.YtmpmmhmnjdkgcaaW.PrintWords Go.Proofs.YtmpmmhmnjdkgcaaW.PrintLast

theorem w64 {x : Int} (h0 : -9223372036854775808 ≤ x) (h1 : x ≤ 9223372036854775807) : wrap64 x = x := by
  unfold wrap64
  omega
theorem wf_i64 {x : Int} (h : (Lit.int .i64 x).wf = true) : -9223372036854775808 ≤ x ∧ x ≤ 9223372036854775807 := by
  simp [Lit.wf, IntKind.min, IntKind.max, IntKind.signed, IntKind.bits] at h
  omega

theorem rd_nat {l : List Int} {i : Nat} (h : i < l.length) : rd l (i : Int) = l[i] := by
  unfold rd
  rw [Int.toNat_natCast, List.getD_eq_getElem?_getD, List.getElem?_eq_getElem h]
  rfl
theorem rd_drop {l : List Int} {i : Nat} (h : i < l.length) : l.drop i = rd l (i : Int) :: l.drop (i + 1) := by
  rw [rd_nat h, ← List.drop_eq_getElem_cons h]
theorem wsucc {i n : Nat} (h : i < n) (hn : n ≤ 9223372036854775807) : wrap64 ((i : Int) + 1) = ((i + 1 : Nat) : Int) := by
  rw [w64 (by omega) (by omega)]
  omega
theorem ite_t {α : Sort _} {a b : α} : (if true = true then a else b) = a := if_pos rfl
theorem ite_f {α : Sort _} {a b : α} : (if false = true then a else b) = b := if_neg (by decide)
theorem fuel {k d : Nat} (h : d < k) : ∃ m, k = m + 1 ∧ d ≤ m := ⟨k - 1, by omega, by omega⟩

theorem toIntS_l0 (l : List Int) (hl : l.length ≤ 9223372036854775807) : ∀ (d k i : Nat) (m : List Int), i + d = l.length → d < k → m.length = l.length → m.take i = l.take i →
    laws_toIntS.l0 k l m (i : Int) = some l := by
  intro d
  induction d with
  | zero =>
    intro k i m hi hk hm ht
    obtain ⟨k, rfl, _⟩ := fuel hk
    simp only [laws_toIntS.l0]
    rw [if_neg (by omega)]
    rw [List.take_of_length_le (by omega), List.take_of_length_le (by omega)] at ht
    rw [ht]
  | succ d ih =>
    intro k i m hi hk hm ht
    obtain ⟨k, rfl, hk⟩ := fuel hk
    simp only [laws_toIntS.l0]
    rw [if_pos (by omega), if_pos (by omega), if_pos (by omega), wsucc (n := l.length) (by omega) hl, Int.toNat_natCast]
    refine ih k (i + 1) _ (by omega) (by omega) (by rw [List.length_set]; exact hm) ?_
    rw [rd_nat (by omega)]
    rw [List.take_succ_eq_append_getElem (by rw [List.length_set]; omega), List.take_succ_eq_append_getElem (by omega), List.take_set_of_le (by omega), ht, List.getElem_set_self]
theorem toIntS_eq {l : List Int} {k : Nat} (hl : l.length ≤ 1048576) (hk : l.length < k) : laws_toIntS.f k l = some l := by
  unfold laws_toIntS.f
  rw [if_pos (by omega), if_pos (by omega), Int.toNat_natCast]
  exact toIntS_l0 l (by omega) l.length k 0 _ (by omega) hk (by simp) (by simp)

theorem eqIntS_l0 (l : List Int) (hl : l.length ≤ 9223372036854775807) : ∀ (d k i : Nat), i + d = l.length → d < k → laws_eqIntS.l0 k l l (i : Int) = some true := by
  intro d
  induction d with
  | zero =>
    intro k i hi hk
    obtain ⟨k, rfl, _⟩ := fuel hk
    simp only [laws_eqIntS.l0]
    rw [if_neg (by omega)]
  | succ d ih =>
    intro k i hi hk
    obtain ⟨k, rfl, hk⟩ := fuel hk
    simp only [laws_eqIntS.l0]
    rw [if_pos (by omega), if_pos (by omega), if_pos (by omega), if_pos trivial, wsucc (n := l.length) (by omega) hl]
    exact ih k (i + 1) (by omega) (by omega)
theorem eqIntS_self {l : List Int} {k : Nat} (hl : l.length ≤ 9223372036854775807) (hk : l.length < k) : laws_eqIntS.f k l l = some true := by
  unfold laws_eqIntS.f
  rw [if_pos rfl]
  exact eqIntS_l0 l hl l.length k 0 (by omega) hk

theorem l1In_eq (a b c : Int) : spec_l1In.f a b c = some (decide (b ≤ a ∧ a ≤ c)) := by
  unfold spec_l1In.f
  split <;> simp <;> omega

def inAll (lo hi : Int) (l : List Int) : Bool := l.all fun x => decide (lo ≤ x ∧ x ≤ hi)
theorem l1All_l0 (lo up : Int) (l : List Int) (hl : l.length ≤ 9223372036854775807) : ∀ (d k i : Nat), i + d = l.length → d < k → spec_l1All.l0 k lo up l (l.length : Int) (i : Int) = some (inAll lo up (l.drop i)) := by
  intro d
  induction d with
  | zero =>
    intro k i hi hk
    obtain ⟨k, rfl, _⟩ := fuel hk
    simp only [spec_l1All.l0]
    rw [if_neg (by omega), List.drop_of_length_le (by omega)]
    rfl
  | succ d ih =>
    intro k i hi hk
    obtain ⟨k, rfl, hk⟩ := fuel hk
    simp only [spec_l1All.l0]
    rw [if_pos (by omega), if_pos (by omega), if_pos (by omega), l1In_eq, Option.bind_some, wsucc (n := l.length) (by omega) hl, rd_drop (by omega)]
    by_cases hx : lo ≤ rd l i ∧ rd l i ≤ up
    · rw [decide_eq_true hx, ite_t, ih k (i + 1) (by omega) (by omega)]
      simp [inAll, hx]
    · rw [decide_eq_false hx, ite_f]
      simp [inAll]
      omega
theorem l1All_eq {l : List Int} {k : Nat} (lo hi : Int) (hl : l.length ≤ 9223372036854775807) (hk : l.length < k) : spec_l1All.f k l lo hi = some (inAll lo hi l) := by
  unfold spec_l1All.f
  exact l1All_l0 lo hi l hl l.length k 0 (by omega) hk

theorem within_eq (a b c : Int) : impl_within.f a b c = some (decide (b ≤ a ∧ a ≤ c)) := by
  unfold impl_within.f
  split <;> simp <;> omega

def isTerms (l : List Int) : Bool := decide ((l.length : Int) ≤ 10) && inAll (-30) 30 l
theorem ctGood_eq {l : List Int} {k : Nat} (hl : l.length ≤ 9223372036854775807) (hk : l.length < k) : spec_ctGood.f k l = some (isTerms l) := by
  unfold spec_ctGood.f isTerms
  by_cases h : (l.length : Int) ≤ 10
  · rw [if_pos h, l1All_eq _ _ hl hk]
    simp [h]
  · rw [if_neg h]
    simp [h]
theorem idx_terms (l : List Int) (hl : l.length ≤ 9223372036854775807) : ∀ (d k i : Nat), i + d = l.length → d < k → ∃ j : Int, slices_IndexFunc_int_int__at_impl_IsTermList_1.l0 k l (l.length : Int) (i : Int) = some j ∧ decide (j ≥ 0) = !(inAll (-30) 30 (l.drop i)) := by
  intro d
  induction d with
  | zero =>
    intro k i hi hk
    obtain ⟨k, rfl, _⟩ := fuel hk
    simp only [slices_IndexFunc_int_int__at_impl_IsTermList_1.l0]
    rw [if_neg (by omega), List.drop_of_length_le (by omega)]
    exact ⟨-1, rfl, rfl⟩
  | succ d ih =>
    intro k i hi hk
    obtain ⟨k, rfl, hk⟩ := fuel hk
    simp only [slices_IndexFunc_int_int__at_impl_IsTermList_1.l0]
    rw [if_pos (by omega), if_pos (by omega), if_pos (by omega), wsucc (n := l.length) (by omega) hl, rd_drop (by omega)]
    unfold impl_IsTermList_1.f
    rw [within_eq, Option.bind_some, Option.bind_some]
    by_cases hx : -30 ≤ rd l i ∧ rd l i ≤ 30
    · rw [decide_eq_true hx, Bool.not_true, ite_f]
      obtain ⟨j, hj, he⟩ := ih k (i + 1) (by omega) (by omega)
      refine ⟨j, hj, ?_⟩
      rw [he]
      simp [inAll, hx]
    · rw [decide_eq_false hx, Bool.not_false, ite_t]
      refine ⟨_, rfl, ?_⟩
      rw [decide_eq_true (by omega)]
      simp [inAll]
      omega
theorem IsTermList_eq {l : List Int} {k : Nat} (hl : l.length ≤ 9223372036854775807) (hk : l.length < k) : impl_IsTermList.f k l = some (isTerms l) := by
  unfold impl_IsTermList.f isTerms
  by_cases h : (l.length : Int) ≤ 10
  · rw [if_pos h]
    unfold slices_ContainsFunc_int_int__at_impl_IsTermList_1.f slices_IndexFunc_int_int__at_impl_IsTermList_1.f
    obtain ⟨j, hj, he⟩ := idx_terms l hl l.length k 0 (by omega) hk
    rw [Int.natCast_zero] at hj
    rw [hj, Option.bind_some, Option.bind_some, he]
    simp [h]
  · rw [if_neg h]
    simp [h]

def contStep (s : Int) (p : Int × Int) (x : Int) : Int × Int := (p.2, wrap64 (wrap64 (x * p.2) + wrap64 (s * p.1)))
def contOf (s : Int) (l : List Int) : Int := (l.foldl (contStep s) (0, 1)).2
theorem ctValue_l0 (s : Int) (l : List Int) (hl : l.length ≤ 9223372036854775807) : ∀ (d k i : Nat) (p q : Int), i + d = l.length → d < k →
    spec_ctValue.l0 k s p q l (l.length : Int) (i : Int) = some ((l.drop i).foldl (contStep s) (p, q)).2 := by
  intro d
  induction d with
  | zero =>
    intro k i p q hi hk
    obtain ⟨k, rfl, _⟩ := fuel hk
    simp only [spec_ctValue.l0]
    rw [if_neg (by omega), List.drop_of_length_le (by omega)]
    rfl
  | succ d ih =>
    intro k i p q hi hk
    obtain ⟨k, rfl, hk⟩ := fuel hk
    simp only [spec_ctValue.l0]
    rw [if_pos (by omega), if_pos (by omega), if_pos (by omega), wsucc (n := l.length) (by omega) hl, ih k (i + 1) _ _ (by omega) (by omega), rd_drop (l := l) (i := i) (by omega)]
    rfl
theorem ctValue_eq {l : List Int} {k : Nat} (s : Int) (hl : l.length ≤ 9223372036854775807) (hk : l.length < k) : spec_ctValue.f k l s = some (contOf s l) := by
  unfold spec_ctValue.f
  exact ctValue_l0 s l hl l.length k 0 0 1 (by omega) hk
theorem continuant_l0 (s : Int) (l : List Int) : ∀ (k : Nat) (p q i : Int), impl_continuant.l0 k s p q l (l.length : Int) i = spec_ctValue.l0 k s p q l (l.length : Int) i := by
  intro k
  induction k with
  | zero => intro p q i; rfl
  | succ k ih =>
    intro p q i
    simp only [impl_continuant.l0, spec_ctValue.l0, ih]
theorem continuant_eq {l : List Int} {k : Nat} (s : Int) (hl : l.length ≤ 9223372036854775807) (hk : l.length < k) : impl_continuant.f k l s = some (contOf s l) := by
  rw [← ctValue_eq s hl hk]
  unfold spec_ctValue.f impl_continuant.f
  exact continuant_l0 s l k 0 1 0

def marked : Nat → Int → List Int
  | 0, _ => []
  | n + 1, j => j :: marked n (j + 1)
theorem marked_length : ∀ n j, (marked n j).length = n
  | 0, _ => rfl
  | n + 1, j => by rw [marked, List.length_cons, marked_length n]
theorem markIntS_l0 : ∀ (d k i : Nat) (l : List Int) (j : Int), i + d = l.length → d < k → l.length ≤ 1000000000 → 0 ≤ j → j + d ≤ 4000000000 →
    laws_markIntS.l0 k l j (i : Int) = some (j + d, l.take i ++ marked d j) := by
  intro d
  induction d with
  | zero =>
    intro k i l j hi hk hl hj hb
    obtain ⟨k, rfl, _⟩ := fuel hk
    simp only [laws_markIntS.l0]
    rw [if_neg (by omega), List.take_of_length_le (by omega)]
    simp [marked]
  | succ d ih =>
    intro k i l j hi hk hl hj hb
    obtain ⟨k, rfl, hk⟩ := fuel hk
    simp only [laws_markIntS.l0]
    rw [if_pos (by omega), if_pos (by omega), wsucc (n := l.length) (by omega) (by omega), w64 (x := j + 1) (by omega) (by omega), Int.toNat_natCast,
      ih k (i + 1) _ (j + 1) (by rw [List.length_set]; omega) (by omega) (by rw [List.length_set]; omega) (by omega) (by omega)]
    rw [List.take_succ_eq_append_getElem (by rw [List.length_set]; omega), List.getElem_set_self, List.take_set_of_le (by omega), marked, List.append_assoc]
    congr 2
    omega
theorem markIntS_eq {l : List Int} {k : Nat} (hk : l.length < k) (hl : l.length ≤ 1000000000) : laws_markIntS.f k l 1 = some (1 + (l.length : Int), marked l.length 1) := by
  unfold laws_markIntS.f
  have := markIntS_l0 l.length k 0 l 1 (by omega) hk hl (by omega) (by omega)
  simpa using this
theorem heldIntS_l0 (p : List Int) : ∀ (d k : Nat) (p : List Int) (j : Int), d < k → p.length + d ≤ 1000000000 → 0 ≤ j → j + d ≤ 4000000000 →
    laws_heldIntS.l0 k (p ++ marked d j) j (p.length : Int) = some (j + d) := by
  intro d
  induction d with
  | zero =>
    intro k p j hk hl hj hb
    obtain ⟨k, rfl, _⟩ := fuel hk
    simp only [laws_heldIntS.l0]
    rw [if_neg (by simp [marked])]
    simp
  | succ d ih =>
    intro k p j hk hl hj hb
    obtain ⟨k, rfl, hk⟩ := fuel hk
    simp only [laws_heldIntS.l0]
    have hlen : (p ++ marked (d + 1) j).length = p.length + (d + 1) := by rw [List.length_append, marked_length]
    have hr : rd (p ++ marked (d + 1) j) (p.length : Int) = j := by
      rw [rd_nat (by omega), List.getElem_append_right (Nat.le_refl _)]
      simp [marked]
    rw [if_pos (by omega), if_pos (by omega), if_pos hr, wsucc (n := p.length + (d + 1)) (by omega) (by omega), w64 (x := j + 1) (by omega) (by omega)]
    have h := ih k (p ++ [j]) (j + 1) (by omega) (by rw [List.length_append]; simp; omega) (by omega) (by omega)
    rw [List.length_append, List.length_singleton, List.append_assoc] at h
    rw [marked]
    refine h.trans ?_
    congr 1
    omega
theorem heldIntS_eq {n k : Nat} (hk : n < k) (hl : n ≤ 1000000000) : laws_heldIntS.f k (marked n 1) 1 = some (1 + (n : Int)) := by
  unfold laws_heldIntS.f
  exact heldIntS_l0 [] n k [] 1 hk (by simpa using hl) (by omega) (by omega)

def splitOf (l : List Int) (a : Int) : List Int × Bool :=
  if isTerms l = true ∧ 1 ≤ a ∧ a ≤ (l.length : Int) - 1 then ([contOf (-1) (l.take a.toNat), contOf (-1) (l.drop a.toNat), contOf (-1) (l.take (a - 1).toNat), contOf (-1) (l.drop (a + 1).toNat)], true) else ([], false)
theorem splitOf_len (l : List Int) (a : Int) : (splitOf l a).1.length ≤ 4 := by
  unfold splitOf
  split <;> simp
theorem spec_split {l : List Int} {a : Int} {k : Nat} (hl : l.length ≤ 1048576) (hk : l.length + 1 < k) : spec_SplitContinuant.f k l a = some (splitOf l a) := by
  obtain ⟨k, rfl, hk1⟩ := fuel hk
  unfold spec_SplitContinuant.f splitOf
  rw [ctGood_eq (by omega) (by omega), Option.bind_some, w64 (x := (l.length : Int) - 1) (by omega) (by omega)]
  cases hT : isTerms l with
  | false => simp [spec_SplitContinuant.j0]
  | true =>
    rw [if_pos rfl, l1In_eq, Option.bind_some]
    by_cases ha : 1 ≤ a ∧ a ≤ (l.length : Int) - 1
    · rw [decide_eq_true ha, if_pos ⟨rfl, ha⟩]
      simp only [spec_SplitContinuant.j0, Bool.not_true, Bool.false_eq_true, if_false]
      rw [w64 (x := a - 1) (by omega) (by omega), w64 (x := a + 1) (by omega) (by omega)]
      rw [if_pos (by omega), if_pos (by omega), ctValue_eq (k := k) _ (by simp; omega) (by simp; omega), Option.bind_some, ctValue_eq (k := k) _ (by simp; omega) (by simp; omega), Option.bind_some,
        if_pos (by omega), if_pos (by omega), ctValue_eq (k := k) _ (by simp; omega) (by simp; omega), Option.bind_some, if_pos (by omega), if_pos (by omega), ctValue_eq (k := k) _ (by simp; omega) (by simp; omega), Option.bind_some]
    · rw [decide_eq_false ha, if_neg (by simp only [true_and]; exact ha)]
      simp [spec_SplitContinuant.j0]
theorem impl_split {l : List Int} {a : Int} {k : Nat} (hl : l.length ≤ 1048576) (hk : l.length + 1 < k) : impl_SplitContinuant.f k l a = some (splitOf l a) := by
  obtain ⟨k, rfl, hk1⟩ := fuel hk
  unfold impl_SplitContinuant.f splitOf
  rw [IsTermList_eq (by omega) (by omega), Option.bind_some, w64 (x := (l.length : Int) - 1) (by omega) (by omega)]
  cases hT : isTerms l with
  | false => simp [impl_SplitContinuant.j0]
  | true =>
    rw [if_pos rfl, within_eq, Option.bind_some]
    by_cases ha : 1 ≤ a ∧ a ≤ (l.length : Int) - 1
    · rw [decide_eq_true ha, if_pos ⟨rfl, ha⟩]
      simp only [impl_SplitContinuant.j0, Bool.not_true, Bool.false_eq_true, if_false]
      rw [w64 (x := a - 1) (by omega) (by omega), w64 (x := a + 1) (by omega) (by omega)]
      rw [if_pos (by omega), if_pos (by omega), continuant_eq (k := k) _ (by simp; omega) (by simp; omega), Option.bind_some, continuant_eq (k := k) _ (by simp; omega) (by simp; omega), Option.bind_some,
        if_pos (by omega), if_pos (by omega), continuant_eq (k := k) _ (by simp; omega) (by simp; omega), Option.bind_some, if_pos (by omega), if_pos (by omega), continuant_eq (k := k) _ (by simp; omega) (by simp; omega), Option.bind_some]
    · rw [decide_eq_false ha, if_neg (by simp only [true_and]; exact ha)]
      simp [impl_SplitContinuant.j0]
theorem FnExactSplitContinuant : laws_FnExactSplitContinuant.Pure := by
  intro l a _ _ _
  refine ⟨l.length + 20, ?_⟩
  unfold laws_FnExactSplitContinuant.f
  by_cases h : (l.length : Int) > 1048576
  · rw [if_pos h]
  · rw [if_neg h]
    have hl : l.length ≤ 1048576 := by omega
    have hT : ∀ k, l.length + 10 ≤ k → laws_toIntS.f k l = some l := fun k hk => toIntS_eq hl (by omega)
    have hS : ∀ k, l.length + 10 ≤ k → spec_SplitContinuant.f k l a = some (splitOf l a) := fun k hk => spec_split hl (by omega)
    have hI : ∀ k, l.length + 10 ≤ k → impl_SplitContinuant.f k l a = some (splitOf l a) := fun k hk => impl_split hl (by omega)
    have hr0 := splitOf_len l a
    generalize splitOf l a = s at hS hI hr0
    obtain ⟨r, b⟩ := s
    have hr : r.length ≤ 4 := hr0
    have hE : ∀ k, l.length + 10 ≤ k → laws_eqIntS.f k r r = some true := fun k hk => eqIntS_self (by omega) (by omega)
    have hE2 : ∀ k, l.length + 10 ≤ k → laws_eqIntS.f k l l = some true := fun k hk => eqIntS_self (by omega) (by omega)
    have hM : ∀ k, l.length + 10 ≤ k → laws_markIntS.f k r 1 = some (1 + (r.length : Int), marked r.length 1) := fun k hk => markIntS_eq (by omega) (by omega)
    have hM2 : ∀ k, l.length + 10 ≤ k → laws_markIntS.f k l 1 = some (1 + (l.length : Int), marked l.length 1) := fun k hk => markIntS_eq (by omega) (by omega)
    have hH : ∀ k, l.length + 10 ≤ k → laws_heldIntS.f k (marked r.length 1) 1 = some (1 + (r.length : Int)) := fun k hk => heldIntS_eq (by omega) (by omega)
    have n1 : ¬ ((1 : Int) + r.length < 0) := by omega
    have n2 : ¬ ((1 : Int) + l.length < 0) := by omega
    repeat (first | dsimp only | rw [Option.bind_some] | rw [if_pos rfl] | rw [bne_self_eq_false] | rw [if_neg Bool.false_ne_true] | rw [hT _ (by omega)] | rw [hS _ (by omega)] | rw [hI _ (by omega)] | rw [hE _ (by omega)] | rw [hE2 _ (by omega)] | rw [hM _ (by omega)] | rw [hM2 _ (by omega)] | rw [hH _ (by omega)] | rw [if_neg n1] | rw [if_neg n2] | (simp only [laws_FnExactSplitContinuant.j0]) | (simp only [laws_FnExactSplitContinuant.j1]) | (simp only [laws_FnExactSplitContinuant.j2]))

end Go.Proofs.Ytmpmmhmnjdkgcaa.Pure
