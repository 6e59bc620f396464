/- The plain statement of FnExactEarsOf, over numbers and lists: the program's answer is the reference's. -/
import Derived.Test.YtmpmmhmnjdkgcabPFnExactEarsOfx
set_option linter.unusedVariables false
set_option linter.unusedSimpArgs false
namespace Go.Proofs.Ytmpmmhmnjdkgcab.Pure
open Go.RowKit Go.Proofs.Ytmpmmhmnjdkgcab.PFnExactEarsOf Go.Proofs.YtmpmmhmnjdkgcabW.PrintWords Go.Proofs.YtmpmmhmnjdkgcabW.PrintLast

theorem w64 {x : Int} (h0 : -9223372036854775808 ≤ x) (h1 : x ≤ 9223372036854775807) : wrap64 x = x := by
  unfold wrap64
  omega
theorem wf_i64 {x : Int} (h : (Lit.int .i64 x).wf = true) : -9223372036854775808 ≤ x ∧ x ≤ 9223372036854775807 := by
  simp [Lit.wf, IntKind.min, IntKind.max, IntKind.signed, IntKind.bits] at h
  omega

theorem within_eq (a b c : Int) : impl_within.f a b c = some (decide (b ≤ a ∧ a ≤ c)) := by
  unfold impl_within.f
  split <;> simp <;> omega

theorem l1In_eq (a b c : Int) : spec_l1In.f a b c = some (decide (b ≤ a ∧ a ≤ c)) := by
  unfold spec_l1In.f
  split <;> simp <;> omega

theorem some_f {p : Prop} [Decidable p] (h : ¬ p) : some false = some (decide p) := by rw [decide_eq_false h]
theorem some_t {p : Prop} [Decidable p] (h : p) : some true = some (decide p) := by rw [decide_eq_true h]
theorem some_d {p q : Prop} [Decidable p] [Decidable q] (h : p ↔ q) : some (decide p) = some (decide q) := by rw [decide_eq_decide.2 h]
theorem some_b {b : Bool} {p : Prop} [Decidable p] (h : b = true ↔ p) : some b = some (decide p) := by
  congr 1
  rw [Bool.eq_iff_iff, h, decide_eq_true_iff]

def IsDiag (n a b : Int) : Prop := 3 ≤ n ∧ n ≤ 12 ∧ 0 ≤ a ∧ b ≤ n - 1 ∧ 2 ≤ b - a ∧ b - a ≤ n - 2
instance (n a b : Int) : Decidable (IsDiag n a b) := by unfold IsDiag; infer_instance
theorem poIs_eq (n : Int) : spec_poIs.f n = some (decide (3 ≤ n ∧ n ≤ 12)) := by
  unfold spec_poIs.f
  simp only [l1In_eq, Option.bind_some]
theorem isPolygon_eq (n : Int) : impl_isPolygon.f n = some (decide (3 ≤ n ∧ n ≤ 12)) := by
  unfold impl_isPolygon.f
  simp only [within_eq, Option.bind_some]
theorem poDiagonal_eq (n a b : Int) : spec_poDiagonal.f n a b = some (decide (IsDiag n a b)) := by
  unfold spec_poDiagonal.f
  simp only [poIs_eq, l1In_eq, Option.bind_some, decide_eq_true_eq]
  by_cases hn : 3 ≤ n ∧ n ≤ 12
  · rw [if_pos hn, w64 (x := n - 1) (by omega) (by omega), w64 (x := n - 2) (by omega) (by omega)]
    by_cases ha : 0 ≤ a ∧ a ≤ n - 1
    · rw [if_pos ha]
      by_cases hb : 0 ≤ b ∧ b ≤ n - 1
      · rw [if_pos hb, w64 (x := b - a) (by omega) (by omega)]
        by_cases hc : b - a ≥ 2
        · rw [if_pos hc]; exact some_d (by unfold IsDiag; omega)
        · rw [if_neg hc]; exact some_f (by unfold IsDiag; omega)
      · rw [if_neg hb]; exact some_f (by unfold IsDiag; omega)
    · rw [if_neg ha]; exact some_f (by unfold IsDiag; omega)
  · rw [if_neg hn]; exact some_f (by unfold IsDiag; omega)
theorem isDiagonal_eq {n : Int} (hn : 3 ≤ n ∧ n ≤ 12) (a b : Int) : impl_isDiagonal.f n a b = some (decide (IsDiag n a b)) := by
  unfold impl_isDiagonal.f
  simp only [within_eq, Option.bind_some, decide_eq_true_eq]
  rw [w64 (x := n - 1) (by omega) (by omega)]
  by_cases ha : 0 ≤ a ∧ a ≤ n - 1
  · rw [if_pos ha]
    by_cases hb : 0 ≤ b ∧ b ≤ n - 1
    · rw [if_pos hb, w64 (x := b - a) (by omega) (by omega)]
      by_cases hc : b - a > 1
      · rw [if_pos hc]
        by_cases h0 : a = 0
        · rw [if_pos h0]; exact some_b (by unfold IsDiag; simp; omega)
        · rw [if_neg h0]; exact some_b (by unfold IsDiag; simp; omega)
      · rw [if_neg hc]; exact some_f (by unfold IsDiag; omega)
    · rw [if_neg hb]; exact some_f (by unfold IsDiag; omega)
  · rw [if_neg ha]; exact some_f (by unfold IsDiag; omega)

def Cross (a b c d : Int) : Prop := (a < c ∧ c < b ∧ b < d) ∨ (c < a ∧ a < d ∧ d < b)
instance (a b c d : Int) : Decidable (Cross a b c d) := by unfold Cross; infer_instance
theorem poCross_eq (a b c d : Int) : spec_poCross.f a b c d = some (decide (Cross a b c d)) := by
  unfold spec_poCross.f Cross
  (repeat' split) <;> first | exact some_t (by omega) | exact some_f (by omega) | exact some_d (by omega)
theorem doCross_eq (a b c d : Int) : impl_doCross.f a b c d = some (decide (Cross a b c d)) := by
  unfold impl_doCross.f Cross
  (repeat' split) <;> first | exact some_t (by omega) | exact some_f (by omega) | exact some_d (by omega)

theorem rd_nat {l : List Int} {i : Nat} (h : i < l.length) : rd l (i : Int) = l[i] := by
  unfold rd
  rw [Int.toNat_natCast, List.getD_eq_getElem?_getD, List.getElem?_eq_getElem h]
  rfl
theorem rd_drop {l : List Int} {i : Nat} (h : i < l.length) : l.drop i = rd l (i : Int) :: l.drop (i + 1) := by
  rw [rd_nat h, ← List.drop_eq_getElem_cons h]
theorem wsucc {i n : Nat} (h : i < n) (hn : n ≤ 9223372036854775807) : wrap64 ((i : Int) + 1) = ((i + 1 : Nat) : Int) := by
  rw [w64 (by omega) (by omega)]
  omega
theorem ite_t {α : Sort _} {a b : α} : (if true = true then a else b) = a := if_pos rfl
theorem ite_f {α : Sort _} {a b : α} : (if false = true then a else b) = b := if_neg (by decide)
theorem fuel {k d : Nat} (h : d < k) : ∃ m, k = m + 1 ∧ d ≤ m := ⟨k - 1, by omega, by omega⟩

theorem rdT_nat {l : List S54} {i : Nat} (h : i < l.length) : rd_T54 l (i : Int) = l[i] := by
  unfold rd_T54
  rw [Int.toNat_natCast, List.getD_eq_getElem?_getD, List.getElem?_eq_getElem h]
  rfl
theorem rdT_drop {l : List S54} {i : Nat} (h : i < l.length) : l.drop i = rd_T54 l (i : Int) :: l.drop (i + 1) := by
  rw [rdT_nat h, ← List.drop_eq_getElem_cons h]
theorem eqDiagonal_self (a b : Int) : laws_eqDiagonal.f a b a b = some true := by
  unfold laws_eqDiagonal.f
  rw [if_pos rfl, if_pos rfl]
theorem eqDiagonalS_l0 (l : List S54) (hl : l.length ≤ 9223372036854775807) : ∀ (d k i : Nat), i + d = l.length → d < k → laws_eqDiagonalS.l0 k l l (i : Int) = some true := by
  intro d
  induction d with
  | zero =>
    intro k i hi hk
    obtain ⟨k, rfl, _⟩ := fuel hk
    simp only [laws_eqDiagonalS.l0]
    rw [if_neg (by omega)]
  | succ d ih =>
    intro k i hi hk
    obtain ⟨k, rfl, hk⟩ := fuel hk
    simp only [laws_eqDiagonalS.l0]
    rw [if_pos (by omega), if_pos (by omega), if_pos (by omega), eqDiagonal_self, Option.bind_some, if_pos rfl, wsucc (n := l.length) (by omega) hl]
    exact ih k (i + 1) (by omega) (by omega)
theorem eqDiagonalS_self {l : List S54} {k : Nat} (hl : l.length ≤ 9223372036854775807) (hk : l.length < k) : laws_eqDiagonalS.f k l l = some true := by
  unfold laws_eqDiagonalS.f
  rw [if_pos rfl]
  exact eqDiagonalS_l0 l hl l.length k 0 (by omega) hk

def lessD (a b c d : Int) : Bool := decide (a < c ∨ (a = c ∧ b < d))
def okAt (n : Int) (l : List S54) (i : Nat) : Bool :=
  decide (IsDiag n (rd_T54 l i).f0 (rd_T54 l i).f1) && (decide (i = 0) || lessD (rd_T54 l ((i : Int) - 1)).f0 (rd_T54 l ((i : Int) - 1)).f1 (rd_T54 l i).f0 (rd_T54 l i).f1) &&
    !((l.take i).any fun e => decide (Cross (rd_T54 l i).f0 (rd_T54 l i).f1 e.f0 e.f1))
def goodFrom (n : Int) (l : List S54) : Nat → Nat → Bool
  | 0, _ => true
  | d + 1, i => okAt n l i && goodFrom n l d (i + 1)
/-- What both programs take a list to be: a triangulation of the polygon. -/
def Good (n : Int) (l : List S54) : Bool := decide (3 ≤ n ∧ n ≤ 12) && (decide ((l.length : Int) = n - 3) && goodFrom n l l.length 0)
theorem cmpInt_eq (a b : Int) : cmp_Compare_int.f a b = some (if a < b then -1 else if a > b then 1 else 0) := by
  unfold cmp_Compare_int.f cmp_isNaN_int.f
  simp only [Option.bind_some, bne_self_eq_false, Bool.false_eq_true, if_false]
  split
  · rfl
  · split <;> rfl
theorem cmpD_eq {k : Nat} (hk : 4 ≤ k) (a b c d : Int) : ∃ r, impl_compareDiagonals.f k a b c d = some r ∧ (decide (r ≥ 0) = !(lessD a b c d)) ∧ (r < 0 ↔ lessD a b c d = true) ∧ (r = 0 ↔ a = c ∧ b = d) := by
  obtain ⟨k, rfl⟩ : ∃ m, k = m + 4 := ⟨k - 4, by omega⟩
  unfold impl_compareDiagonals.f
  rw [cmpInt_eq, cmpInt_eq, Option.bind_some, Option.bind_some]
  have h0 : ∀ x y : Int, rd [x, y] 0 = x := fun _ _ => rfl
  have h1 : ∀ x y : Int, rd [x, y] 1 = y := fun _ _ => rfl
  have hor : ∀ x y : Int, cmp_Or_int.f (k + 4) [x, y] = some (if x = 0 then y else x) := by
    intro x y
    unfold cmp_Or_int.f
    have w1 : wrap64 (0 + 1) = 1 := w64 (by omega) (by omega)
    have w2 : wrap64 (1 + 1) = 2 := w64 (by omega) (by omega)
    have n2 : ((([x, y] : List Int).length : Nat) : Int) = 2 := rfl
    rw [n2]
    simp only [cmp_Or_int.l0, n2, h0, h1, w1, w2]
    by_cases hx : x = 0
    · by_cases hy : y = 0
      · simp [hx, hy]
      · simp [hx, hy]
    · simp [hx]
  rw [hor, Option.bind_some]
  refine ⟨_, rfl, ?_⟩
  unfold lessD
  by_cases h1 : a < c
  · simp [h1]; omega
  · by_cases h2 : a > c
    · simp [h1, h2]; omega
    · obtain rfl : a = c := by omega
      by_cases h3 : b < d
      · simp [h3]; omega
      · by_cases h4 : b > d
        · simp [h3, h4]; omega
        · simp [h3, h4]; omega
theorem wpred {i n : Nat} (h0 : 0 < i) (h : i < n) (hn : n ≤ 9223372036854775807) : wrap64 ((i : Int) - 1) = (i : Int) - 1 := by
  rw [w64 (by omega) (by omega)]
theorem any_cross (a b : Int) (l : List S54) (hl : l.length ≤ 1048576) : impl_Diagonal__at_impl_IsTriangulation_1.f l a b = some (l.any fun e => decide (Cross a b e.f0 e.f1)) := by
  unfold impl_Diagonal__at_impl_IsTriangulation_1.f
  rw [if_pos hl]
  congr 2
  funext e
  rw [Bool.eq_iff_iff, decide_eq_true_iff]
  unfold impl_Diagonal__at_impl_IsTriangulation_1.x Cross
  simp only [Bool.or_eq_true, Bool.and_eq_true, decide_eq_true_eq]
  omega
theorem implTri_l0 (n : Int) (hn : 3 ≤ n ∧ n ≤ 12) (l : List S54) (hl : l.length ≤ 1048576) : ∀ (d k i : Nat), i + d = l.length → d + 5 < k → impl_IsTriangulation.l0 k n l l (l.length : Int) (i : Int) = some (goodFrom n l d i) := by
  intro d
  induction d with
  | zero =>
    intro k i hi hk
    obtain ⟨k, rfl, _⟩ := fuel hk
    simp only [impl_IsTriangulation.l0, goodFrom]
    rw [if_neg (by omega)]
  | succ d ih =>
    intro k i hi hk
    obtain ⟨k, rfl, hk⟩ := fuel hk
    simp only [impl_IsTriangulation.l0, goodFrom, okAt]
    rw [if_pos (by omega), if_pos (by omega), if_pos (by omega), isDiagonal_eq hn, Option.bind_some]
    by_cases h1 : IsDiag n (rd_T54 l i).f0 (rd_T54 l i).f1
    · rw [decide_eq_true h1, ite_t]
      by_cases h2 : (i : Int) > 0
      · rw [if_pos h2, wpred (n := l.length) (by omega) (by omega) (by omega), if_pos (by omega), if_pos (by omega)]
        obtain ⟨r, hr, hr1, hr2, _⟩ := cmpD_eq (k := k) (by omega) (rd_T54 l ((i : Int) - 1)).f0 (rd_T54 l ((i : Int) - 1)).f1 (rd_T54 l i).f0 (rd_T54 l i).f1
        rw [hr, Option.bind_some]
        by_cases h3 : r ≥ 0
        · rw [if_pos h3]
          have : lessD (rd_T54 l ((i : Int) - 1)).f0 (rd_T54 l ((i : Int) - 1)).f1 (rd_T54 l i).f0 (rd_T54 l i).f1 = false := by
            rw [decide_eq_true h3] at hr1
            simpa using hr1.symm
          simp [this]
          omega
        · rw [if_neg h3, if_pos (by omega), any_cross _ _ _ (by rw [List.length_take]; omega), Option.bind_some, hr2.1 (by omega), Int.toNat_natCast, wsucc (n := l.length) (by omega) (by omega), ih k (i + 1) (by omega) (by omega)]
          cases h4 : (l.take i).any fun e => decide (Cross (rd_T54 l i).f0 (rd_T54 l i).f1 e.f0 e.f1) <;> simp
      · rw [if_neg h2, if_pos (by omega), any_cross _ _ _ (by rw [List.length_take]; omega), Option.bind_some, Int.toNat_natCast, wsucc (n := l.length) (by omega) (by omega), ih k (i + 1) (by omega) (by omega)]
        have h3 : i = 0 := by omega
        subst h3
        cases h4 : (l.take 0).any fun e => decide (Cross (rd_T54 l ((0 : Nat) : Int)).f0 (rd_T54 l ((0 : Nat) : Int)).f1 e.f0 e.f1) <;> simp
    · rw [decide_eq_false h1, ite_f]
      simp
theorem implTri_eq (n : Int) (l : List S54) {k : Nat} (hl : l.length ≤ 1048576) (hk : 20 ≤ k) : impl_IsTriangulation.f k n l = some (Good n l) := by
  unfold impl_IsTriangulation.f Good
  obtain ⟨k, rfl⟩ : ∃ m, k = m + 1 := ⟨k - 1, by omega⟩
  rw [isPolygon_eq, Option.bind_some]
  by_cases hn : 3 ≤ n ∧ n ≤ 12
  · rw [decide_eq_true hn, ite_t, w64 (x := n - 3) (by omega) (by omega)]
    simp only [impl_IsTriangulation.j0]
    by_cases h : (l.length : Int) = n - 3
    · rw [bne_eq_false_iff_eq.2 h, ite_f, decide_eq_true h, ← Int.natCast_zero, implTri_l0 n hn l hl l.length k 0 (by omega) (by omega)]
      rfl
    · rw [bne_iff_ne.2 h, ite_t, decide_eq_false h]
      rfl
  · rw [decide_eq_false hn, ite_f]
    simp only [impl_IsTriangulation.j0]
    rfl
theorem poLess_eq (a b c d : Int) : spec_poLess.f a b c d = some (lessD a b c d) := by
  unfold spec_poLess.f lessD
  (repeat' split) <;> first | exact some_t (by omega) | exact some_f (by omega) | exact some_d (by omega)
theorem poGood_l1 (n : Int) (l y : List S54) (L x a b : Int) (hy : y.length ≤ 1048576) : ∀ (d k q : Nat), q + d = y.length →
    spec_poGood.l1 (k + d + 1) n l l L x y (y.length : Int) (q : Int) a b = if (y.drop q).any (fun e => decide (Cross a b e.f0 e.f1)) = true then some false else spec_poGood.l0 k n l l L (wrap64 (x + 1)) := by
  intro d
  induction d with
  | zero =>
    intro k q hq
    simp only [spec_poGood.l1]
    rw [if_neg (by omega), List.drop_of_length_le (by omega)]
    simp
  | succ d ih =>
    intro k q hq
    obtain ⟨m, hm⟩ : ∃ m, m = k + d + 1 := ⟨_, rfl⟩
    rw [show k + (d + 1) + 1 = m + 1 by omega]
    simp only [spec_poGood.l1]
    rw [hm]
    rw [if_pos (by omega), if_pos (by omega), if_pos (by omega), poCross_eq, Option.bind_some, wsucc (n := y.length) (by omega) (by omega), ih k (q + 1) (by omega), rdT_drop (l := y) (i := q) (by omega), List.any_cons]
    by_cases h : Cross a b (rd_T54 y q).f0 (rd_T54 y q).f1
    · rw [decide_eq_true h, ite_t, Bool.true_or, if_pos rfl]
    · rw [decide_eq_false h, ite_f, Bool.false_or]
theorem poGood_j2 (n : Int) (l : List S54) (hl : l.length ≤ 9) (i : Nat) (hi : i < l.length) (a b : Int) (c : Bool) (r : Bool) {k : Nat} (hk : 12 ≤ k)
    (h : ∀ m, k - 12 ≤ m → spec_poGood.l0 m n l l (l.length : Int) ((i + 1 : Nat) : Int) = some r) :
    spec_poGood.j2 k n l (i : Int) l (l.length : Int) (i : Int) c a b = some (!c && (!((l.take i).any fun e => decide (Cross a b e.f0 e.f1)) && r)) := by
  obtain ⟨k, rfl⟩ : ∃ m, k = m + 1 := ⟨k - 1, by omega⟩
  simp only [spec_poGood.j2]
  cases c with
  | true => simp
  | false =>
    have hlen : (l.take i).length = i := by rw [List.length_take]; omega
    obtain ⟨m, hm⟩ : ∃ m, k = m + (l.take i).length + 1 := ⟨k - i - 1, by omega⟩
    rw [ite_f, if_pos (by omega), if_pos (by omega), Option.bind_some, Int.toNat_natCast]
    have h1 := poGood_l1 n l (l.take i) (l.length : Int) (i : Int) a b (by omega) (l.take i).length m 0 (by omega)
    rw [← hm, Int.natCast_zero, wsucc (n := l.length) hi (by omega), List.drop_zero] at h1
    rw [h1, h m (by omega)]
    cases h4 : (l.take i).any fun e => decide (Cross a b e.f0 e.f1) <;> simp
theorem poGood_l0 (n : Int) (hn : 3 ≤ n ∧ n ≤ 12) (l : List S54) (hl : l.length ≤ 9) : ∀ (d k i : Nat), i + d = l.length → 14 * d + 1 ≤ k → spec_poGood.l0 k n l l (l.length : Int) (i : Int) = some (goodFrom n l d i) := by
  intro d
  induction d with
  | zero =>
    intro k i hi hk
    obtain ⟨k, rfl, _⟩ := fuel (show 0 < k by omega)
    simp only [spec_poGood.l0, goodFrom]
    rw [if_neg (by omega)]
  | succ d ih =>
    intro k i hi hk
    obtain ⟨k, rfl⟩ : ∃ m, k = m + 1 := ⟨k - 1, by omega⟩
    have hj := fun (a b : Int) (c : Bool) => poGood_j2 n l hl i (by omega) a b c (goodFrom n l d (i + 1)) (k := k) (by omega) (fun m hm => ih m (i + 1) (by omega) (by omega))
    simp only [spec_poGood.l0, goodFrom, okAt]
    rw [if_pos (by omega), if_pos (by omega), if_pos (by omega), poDiagonal_eq, Option.bind_some]
    by_cases h1 : IsDiag n (rd_T54 l i).f0 (rd_T54 l i).f1
    · rw [decide_eq_true h1, ite_t]
      by_cases h2 : (i : Int) > 0
      · rw [if_pos h2, wpred (n := l.length) (by omega) (by omega) (by omega), if_pos (by omega), if_pos (by omega), poLess_eq, Option.bind_some, hj, decide_eq_false (show ¬ i = 0 by omega)]
        cases lessD (rd_T54 l ((i : Int) - 1)).f0 (rd_T54 l ((i : Int) - 1)).f1 (rd_T54 l i).f0 (rd_T54 l i).f1 <;> simp
      · rw [if_neg h2, hj, decide_eq_true (show i = 0 by omega)]
        simp
    · rw [decide_eq_false h1, ite_f, hj]
      simp
theorem poGood_eq (n : Int) (l : List S54) {k : Nat} (hk : 200 ≤ k) : spec_poGood.f k n l = some (Good n l) := by
  unfold spec_poGood.f Good
  obtain ⟨k, rfl⟩ : ∃ m, k = m + 1 := ⟨k - 1, by omega⟩
  rw [poIs_eq, Option.bind_some]
  by_cases hn : 3 ≤ n ∧ n ≤ 12
  · rw [decide_eq_true hn, ite_t, w64 (x := n - 3) (by omega) (by omega)]
    simp only [spec_poGood.j0]
    by_cases h : (l.length : Int) = n - 3
    · rw [bne_eq_false_iff_eq.2 h, ite_f, decide_eq_true h, ← Int.natCast_zero, poGood_l0 n hn l (by omega) l.length k 0 (by omega) (by omega)]
      rfl
    · rw [bne_iff_ne.2 h, ite_t, decide_eq_false h]
      rfl
  · rw [decide_eq_false hn, ite_f]
    simp only [spec_poGood.j0]
    rfl

def qAdd (q : List Int) (a b : Int) : List Int := (q.set a.toNat (wrap64 (rd q a + 1))).set b.toNat (wrap64 (rd (q.set a.toNat (wrap64 (rd q a + 1))) b + 1))
def qFold (q : List Int) : List S54 → List Int
  | [] => q
  | d :: l => qFold (qAdd q d.f0 d.f1) l
theorem qAdd_length (q : List Int) (a b : Int) : (qAdd q a b).length = q.length := by simp [qAdd]
theorem qFold_length : ∀ (l : List S54) (q : List Int), (qFold q l).length = q.length
  | [], _ => rfl
  | d :: l, q => by rw [qFold, qFold_length l, qAdd_length]
/-- The triangles at each corner. -/
def quidOf (n : Int) (l : List S54) : List Int := qFold (List.replicate n.toNat 1) l
theorem quidOf_length (n : Int) (l : List S54) : (quidOf n l).length = n.toNat := by rw [quidOf, qFold_length, List.length_replicate]
def InR (n : Int) (l : List S54) : Prop := ∀ i : Nat, i < l.length → 0 ≤ (rd_T54 l i).f0 ∧ (rd_T54 l i).f0 < n ∧ 0 ≤ (rd_T54 l i).f1 ∧ (rd_T54 l i).f1 < n
theorem goodFrom_ok (n : Int) (l : List S54) : ∀ (d i : Nat), goodFrom n l d i = true ↔ ∀ j, i ≤ j → j < i + d → okAt n l j = true := by
  intro d
  induction d with
  | zero => intro i; simp [goodFrom]; intro j h1 h2; omega
  | succ d ih =>
    intro i
    rw [goodFrom, Bool.and_eq_true, ih]
    constructor
    · rintro ⟨h1, h2⟩ j hj1 hj2
      by_cases e : j = i
      · rw [e]; exact h1
      · exact h2 j (by omega) (by omega)
    · intro h
      exact ⟨h i (by omega) (by omega), fun j h1 h2 => h j (by omega) (by omega)⟩
theorem good_iff (n : Int) (l : List S54) : Good n l = true ↔ (3 ≤ n ∧ n ≤ 12) ∧ (l.length : Int) = n - 3 ∧ ∀ j, j < l.length → okAt n l j = true := by
  unfold Good
  rw [Bool.and_eq_true, Bool.and_eq_true, goodFrom_ok, decide_eq_true_eq, decide_eq_true_eq]
  constructor
  · rintro ⟨h1, h2, h3⟩
    exact ⟨h1, h2, fun j hj => h3 j (by omega) (by omega)⟩
  · rintro ⟨h1, h2, h3⟩
    exact ⟨h1, h2, fun j hj1 hj2 => h3 j (by omega)⟩
theorem okAt_diag {n : Int} {l : List S54} {j : Nat} (h : okAt n l j = true) : IsDiag n (rd_T54 l j).f0 (rd_T54 l j).f1 := by
  unfold okAt at h
  rw [Bool.and_eq_true, Bool.and_eq_true] at h
  exact of_decide_eq_true h.1.1
theorem good_inR {n : Int} {l : List S54} (h : Good n l = true) : InR n l := by
  intro i hi
  have h1 := okAt_diag (((good_iff n l).1 h).2.2 i hi)
  unfold IsDiag at h1
  omega
theorem quiddity_l0 (l : List S54) (n : Int) (hl : l.length ≤ 1048576) (hR : InR n l) : ∀ (d k i : Nat) (q : List Int), i + d = l.length → d < k → (q.length : Int) = n →
    impl_quiddity.l0 k q l (l.length : Int) (i : Int) = some (qFold q (l.drop i)) ∧ spec_poQuiddity.l1 k q l (l.length : Int) (i : Int) = some (qFold q (l.drop i)) := by
  intro d
  induction d with
  | zero =>
    intro k i q hi hk hq
    obtain ⟨k, rfl, _⟩ := fuel hk
    simp only [impl_quiddity.l0, spec_poQuiddity.l1]
    constructor <;> rw [if_neg (by omega), List.drop_of_length_le (by omega)] <;> rfl
  | succ d ih =>
    intro k i q hi hk hq
    obtain ⟨k, rfl, hk⟩ := fuel hk
    have hr := hR i (by omega)
    simp only [impl_quiddity.l0, spec_poQuiddity.l1]
    have hh := ih k (i + 1) (qAdd q (rd_T54 l i).f0 (rd_T54 l i).f1) (by omega) (by omega) (by rw [qAdd_length]; exact hq)
    refine ⟨?_, ?_⟩
    · rw [if_pos (by omega), if_pos (by omega), if_pos (by omega), if_pos (by omega), if_pos (by omega), Option.bind_some, if_pos (by omega), if_pos (by omega), wsucc (n := l.length) (by omega) (by omega), rdT_drop (l := l) (i := i) (by omega), qFold]
      exact hh.1
    · rw [if_pos (by omega), if_pos (by omega), if_pos (by omega), if_pos (by omega), if_pos (by omega), Option.bind_some, if_pos (by omega), if_pos (by omega), wsucc (n := l.length) (by omega) (by omega), rdT_drop (l := l) (i := i) (by omega), qFold]
      exact hh.2
theorem implQuid_eq {n : Int} {l : List S54} (hn : 0 ≤ n ∧ n ≤ 12) (hl : l.length ≤ 1048576) (hR : InR n l) {k : Nat} (hk : l.length < k) : impl_quiddity.f k n l = some (quidOf n l) := by
  unfold impl_quiddity.f slices_Repeat_int_int.f
  rw [if_pos ⟨rfl, hn.1, hn.2⟩, Option.bind_some]
  exact ((quiddity_l0 l n hl hR l.length k 0 _ (by omega) hk (by rw [List.length_replicate]; omega))).1
theorem ones_l0 (l : List S54) (N : Nat) (hN : N ≤ 1000) : ∀ (d k i : Nat) (q : List Int), i + d = N → q.length = N → q.take i = List.replicate i 1 →
    spec_poQuiddity.l0 (k + d + 1) l q (N : Int) (i : Int) = spec_poQuiddity.l1 k (List.replicate N 1) l (l.length : Int) 0 := by
  intro d
  induction d with
  | zero =>
    intro k i q hi hq ht
    simp only [spec_poQuiddity.l0]
    rw [if_neg (by omega)]
    rw [List.take_of_length_le (by omega)] at ht
    rw [ht, show i = N by omega]
  | succ d ih =>
    intro k i q hi hq ht
    obtain ⟨m, hm⟩ : ∃ m, m = k + d + 1 := ⟨_, rfl⟩
    rw [show k + (d + 1) + 1 = m + 1 by omega]
    simp only [spec_poQuiddity.l0]
    rw [if_pos (by omega), if_pos (by omega), if_pos (by omega), wsucc (n := N) (by omega) (by omega), Int.toNat_natCast, hm]
    refine ih k (i + 1) _ (by omega) (by rw [List.length_set]; exact hq) ?_
    rw [List.take_succ_eq_append_getElem (by rw [List.length_set]; omega), List.getElem_set_self, List.take_set_of_le (by omega), ht, List.replicate_succ']
theorem specQuid_eq {n : Int} {l : List S54} (hn : 0 ≤ n ∧ n ≤ 12) (hl : l.length ≤ 1048576) (hR : InR n l) {k : Nat} (hk : l.length + 20 < k) : spec_poQuiddity.f k n l = some (quidOf n l) := by
  unfold spec_poQuiddity.f
  rw [if_pos hn.1, if_pos (by omega), Option.bind_some]
  obtain ⟨m, hm⟩ : ∃ m, k = m + n.toNat + 1 := ⟨k - n.toNat - 1, by omega⟩
  have h := ones_l0 l n.toNat (by omega) n.toNat m 0 (List.replicate n.toNat 0) (by omega) (by simp) (by simp)
  rw [Int.natCast_zero] at h
  rw [List.length_replicate, hm, h, ← Int.natCast_zero]
  exact ((quiddity_l0 l n hl hR l.length m 0 _ (by omega) (by omega) (by rw [List.length_replicate]; omega))).2

def cvD (x : S56) : S54 := ⟨x.f0, x.f1⟩
theorem rdL_nat {l : List S56} {i : Nat} (h : i < l.length) : rd_T56 l (i : Int) = l[i] := by
  unfold rd_T56
  rw [Int.toNat_natCast, List.getD_eq_getElem?_getD, List.getElem?_eq_getElem h]
  rfl
theorem toDiagonalS_l0 (l : List S56) (hl : l.length ≤ 9223372036854775807) : ∀ (d k i : Nat) (m : List S54), i + d = l.length → d < k → m.length = l.length → m.take i = (l.map cvD).take i →
    laws_toDiagonalS.l0 k l m (i : Int) = some (l.map cvD) := by
  intro d
  induction d with
  | zero =>
    intro k i m hi hk hm ht
    obtain ⟨k, rfl, _⟩ := fuel hk
    simp only [laws_toDiagonalS.l0]
    rw [if_neg (by omega)]
    rw [List.take_of_length_le (by omega), List.take_of_length_le (by rw [List.length_map]; omega)] at ht
    rw [ht]
  | succ d ih =>
    intro k i m hi hk hm ht
    obtain ⟨k, rfl, hk⟩ := fuel hk
    simp only [laws_toDiagonalS.l0, laws_toDiagonal.f]
    rw [if_pos (by omega), if_pos (by omega), Option.bind_some, if_pos (by omega), wsucc (n := l.length) (by omega) hl, Int.toNat_natCast]
    refine ih k (i + 1) _ (by omega) (by omega) (by rw [List.length_set]; exact hm) ?_
    rw [rdL_nat (by omega)]
    rw [List.take_succ_eq_append_getElem (by rw [List.length_set]; omega), List.take_succ_eq_append_getElem (by rw [List.length_map]; omega), List.take_set_of_le (by omega), ht, List.getElem_set_self, List.getElem_map]
    rfl
theorem toDiagonalS_eq {l : List S56} {k : Nat} (hl : l.length ≤ 1048576) (hk : l.length < k) : laws_toDiagonalS.f k l = some (l.map cvD) := by
  unfold laws_toDiagonalS.f
  rw [if_pos (by omega), if_pos (by omega), Int.toNat_natCast]
  exact toDiagonalS_l0 l (by omega) l.length k 0 _ (by omega) hk (by simp) (by simp)
theorem szDiagonalS_eq {l : List S56} (hl : l.length ≤ 9223372036854775807) : laws_szDiagonalS.f l 1048576 = if (l.length : Int) > 1048576 then some (-1) else some (1048576 - (l.length : Int)) := by
  unfold laws_szDiagonalS.f
  rw [w64 (by omega) (by omega)]
  by_cases h : (l.length : Int) > 1048576
  · rw [if_pos h, if_pos (by omega)]
  · rw [if_neg h, if_neg (by omega)]

def marked : Nat → Int → List Int
  | 0, _ => []
  | n + 1, j => j :: marked n (j + 1)
theorem marked_length : ∀ n j, (marked n j).length = n
  | 0, _ => rfl
  | n + 1, j => by rw [marked, List.length_cons, marked_length n]
theorem markIntS_l0 : ∀ (d k i : Nat) (l : List Int) (j : Int), i + d = l.length → d < k → l.length ≤ 1000000000 → 0 ≤ j → j + d ≤ 4000000000 →
    laws_markIntS.l0 k l j (i : Int) = some (j + d, l.take i ++ marked d j) := by
  intro d
  induction d with
  | zero =>
    intro k i l j hi hk hl hj hb
    obtain ⟨k, rfl, _⟩ := fuel hk
    simp only [laws_markIntS.l0]
    rw [if_neg (by omega), List.take_of_length_le (by omega)]
    simp [marked]
  | succ d ih =>
    intro k i l j hi hk hl hj hb
    obtain ⟨k, rfl, hk⟩ := fuel hk
    simp only [laws_markIntS.l0]
    rw [if_pos (by omega), if_pos (by omega), wsucc (n := l.length) (by omega) (by omega), w64 (x := j + 1) (by omega) (by omega), Int.toNat_natCast,
      ih k (i + 1) _ (j + 1) (by rw [List.length_set]; omega) (by omega) (by rw [List.length_set]; omega) (by omega) (by omega)]
    rw [List.take_succ_eq_append_getElem (by rw [List.length_set]; omega), List.getElem_set_self, List.take_set_of_le (by omega), marked, List.append_assoc]
    congr 2
    omega
theorem markIntS_eq {l : List Int} {k : Nat} (hk : l.length < k) (hl : l.length ≤ 1000000000) : laws_markIntS.f k l 1 = some (1 + (l.length : Int), marked l.length 1) := by
  unfold laws_markIntS.f
  have := markIntS_l0 l.length k 0 l 1 (by omega) hk hl (by omega) (by omega)
  simpa using this
theorem heldIntS_l0 (p : List Int) : ∀ (d k : Nat) (p : List Int) (j : Int), d < k → p.length + d ≤ 1000000000 → 0 ≤ j → j + d ≤ 4000000000 →
    laws_heldIntS.l0 k (p ++ marked d j) j (p.length : Int) = some (j + d) := by
  intro d
  induction d with
  | zero =>
    intro k p j hk hl hj hb
    obtain ⟨k, rfl, _⟩ := fuel hk
    simp only [laws_heldIntS.l0]
    rw [if_neg (by simp [marked])]
    simp
  | succ d ih =>
    intro k p j hk hl hj hb
    obtain ⟨k, rfl, hk⟩ := fuel hk
    simp only [laws_heldIntS.l0]
    have hlen : (p ++ marked (d + 1) j).length = p.length + (d + 1) := by rw [List.length_append, marked_length]
    have hr : rd (p ++ marked (d + 1) j) (p.length : Int) = j := by
      rw [rd_nat (by omega), List.getElem_append_right (Nat.le_refl _)]
      simp [marked]
    rw [if_pos (by omega), if_pos (by omega), if_pos hr, wsucc (n := p.length + (d + 1)) (by omega) (by omega), w64 (x := j + 1) (by omega) (by omega)]
    have h := ih k (p ++ [j]) (j + 1) (by omega) (by rw [List.length_append]; simp; omega) (by omega) (by omega)
    rw [List.length_append, List.length_singleton, List.append_assoc] at h
    rw [marked]
    refine h.trans ?_
    congr 1
    omega
theorem heldIntS_eq {n k : Nat} (hk : n < k) (hl : n ≤ 1000000000) : laws_heldIntS.f k (marked n 1) 1 = some (1 + (n : Int)) := by
  unfold laws_heldIntS.f
  exact heldIntS_l0 [] n k [] 1 hk (by simpa using hl) (by omega) (by omega)

theorem eqIntS_l0 (l : List Int) (hl : l.length ≤ 9223372036854775807) : ∀ (d k i : Nat), i + d = l.length → d < k → laws_eqIntS.l0 k l l (i : Int) = some true := by
  intro d
  induction d with
  | zero =>
    intro k i hi hk
    obtain ⟨k, rfl, _⟩ := fuel hk
    simp only [laws_eqIntS.l0]
    rw [if_neg (by omega)]
  | succ d ih =>
    intro k i hi hk
    obtain ⟨k, rfl, hk⟩ := fuel hk
    simp only [laws_eqIntS.l0]
    rw [if_pos (by omega), if_pos (by omega), if_pos (by omega), if_pos trivial, wsucc (n := l.length) (by omega) hl]
    exact ih k (i + 1) (by omega) (by omega)
theorem eqIntS_self {l : List Int} {k : Nat} (hl : l.length ≤ 9223372036854775807) (hk : l.length < k) : laws_eqIntS.f k l l = some true := by
  unfold laws_eqIntS.f
  rw [if_pos rfl]
  exact eqIntS_l0 l hl l.length k 0 (by omega) hk

def markedD : Nat → Int → List S54
  | 0, _ => []
  | n + 1, j => ⟨j, j + 1⟩ :: markedD n (j + 2)
theorem markedD_length : ∀ n j, (markedD n j).length = n
  | 0, _ => rfl
  | n + 1, j => by rw [markedD, List.length_cons, markedD_length n]
theorem markDiagonalS_l0 : ∀ (d k i : Nat) (l : List S54) (j : Int), i + d = l.length → d < k → l.length ≤ 1000000000 → 0 ≤ j → j + 2 * d ≤ 4000000000 →
    laws_markDiagonalS.l0 k l j (i : Int) = some (j + 2 * d, l.take i ++ markedD d j) := by
  intro d
  induction d with
  | zero =>
    intro k i l j hi hk hl hj hb
    obtain ⟨k, rfl, _⟩ := fuel hk
    simp only [laws_markDiagonalS.l0]
    rw [if_neg (by omega), List.take_of_length_le (by omega)]
    simp [markedD]
  | succ d ih =>
    intro k i l j hi hk hl hj hb
    obtain ⟨k, rfl, hk⟩ := fuel hk
    simp only [laws_markDiagonalS.l0]
    rw [if_pos (by omega), if_pos (by omega), Option.bind_some, wsucc (n := l.length) (by omega) (by omega), w64 (x := j + 1) (by omega) (by omega), w64 (x := j + 1 + 1) (by omega) (by omega), Int.toNat_natCast,
      List.set_set, rdT_nat (by rw [List.length_set]; omega), List.getElem_set_self,
      ih k (i + 1) _ (j + 1 + 1) (by rw [List.length_set]; omega) (by omega) (by rw [List.length_set]; omega) (by omega) (by omega)]
    rw [List.take_succ_eq_append_getElem (by rw [List.length_set]; omega), List.getElem_set_self, List.take_set_of_le (by omega), markedD, List.append_assoc, show j + 1 + 1 = j + 2 by omega]
    congr 2
    omega
theorem markDiagonalS_eq {l : List S54} {k : Nat} (hk : l.length < k) (hl : l.length ≤ 1000000000) : laws_markDiagonalS.f k l 1 = some (1 + 2 * (l.length : Int), markedD l.length 1) := by
  unfold laws_markDiagonalS.f
  have := markDiagonalS_l0 l.length k 0 l 1 (by omega) hk hl (by omega) (by omega)
  simpa using this

def earsFrom (q : List Int) : Nat → Nat → List Int
  | 0, _ => []
  | d + 1, i => if rd q i = 1 then (i : Int) :: earsFrom q d (i + 1) else earsFrom q d (i + 1)
theorem earsFrom_length (q : List Int) : ∀ d i, (earsFrom q d i).length ≤ d
  | 0, _ => Nat.le_refl _
  | d + 1, i => by
    have := earsFrom_length q d (i + 1)
    rw [earsFrom]
    split
    · rw [List.length_cons]; omega
    · omega
theorem ears_l0 (q : List Int) (hq : q.length ≤ 1000) : ∀ (d k i : Nat) (a : List Int), i + d = q.length → d < k → a.length ≤ i →
    spec_EarsOf.l0 k a q (q.length : Int) (i : Int) = some (a ++ earsFrom q d i, true) ∧ impl_EarsOf.l0 k a q (q.length : Int) (i : Int) = some (a ++ earsFrom q d i, true) := by
  intro d
  induction d with
  | zero =>
    intro k i a hi hk ha
    obtain ⟨k, rfl, _⟩ := fuel hk
    simp only [spec_EarsOf.l0, impl_EarsOf.l0, earsFrom]
    constructor <;> rw [if_neg (by omega), List.append_nil]
  | succ d ih =>
    intro k i a hi hk ha
    obtain ⟨k, rfl, hk⟩ := fuel hk
    simp only [spec_EarsOf.l0, impl_EarsOf.l0, earsFrom]
    by_cases h : rd q i = 1
    · have hh := ih k (i + 1) (a ++ [(i : Int)]) (by omega) (by omega) (by rw [List.length_append]; simp; omega)
      rw [List.append_assoc, List.singleton_append] at hh
      have e : earsFrom q (d + 1) i = (i : Int) :: earsFrom q d (i + 1) := by rw [earsFrom, if_pos h]
      simp only [earsFrom] at e
      rw [e]
      constructor
      · rw [if_pos (by omega), if_pos (by omega), if_pos (by omega), if_pos h, if_pos (by omega), wsucc (n := q.length) (by omega) (by omega)]; exact hh.1
      · rw [if_pos (by omega), if_pos (by omega), if_pos (by omega), if_pos h, if_pos (by omega), wsucc (n := q.length) (by omega) (by omega)]; exact hh.2
    · have hh := ih k (i + 1) a (by omega) (by omega) (by omega)
      have e : earsFrom q (d + 1) i = earsFrom q d (i + 1) := by rw [earsFrom, if_neg h]
      simp only [earsFrom] at e
      rw [e]
      constructor
      · rw [if_pos (by omega), if_pos (by omega), if_pos (by omega), if_neg h, wsucc (n := q.length) (by omega) (by omega)]; exact hh.1
      · rw [if_pos (by omega), if_pos (by omega), if_pos (by omega), if_neg h, wsucc (n := q.length) (by omega) (by omega)]; exact hh.2
theorem res (n : Int) (l : List S54) (hl : l.length ≤ 1048576) : ∃ q b, q.length ≤ 12 ∧ ∀ k, l.length + 250 ≤ k → spec_EarsOf.f k n l = some (q, b) ∧ impl_EarsOf.f k n l = some (q, b) := by
  cases h : Good n l with
  | false =>
    refine ⟨[], false, by simp, fun k hk => ?_⟩
    unfold spec_EarsOf.f impl_EarsOf.f
    rw [poGood_eq _ _ (by omega), implTri_eq _ _ hl (by omega), h]
    exact ⟨rfl, rfl⟩
  | true =>
    have hg := (good_iff n l).1 h
    have hq := quidOf_length n l
    refine ⟨earsFrom (quidOf n l) (quidOf n l).length 0, true, by have := earsFrom_length (quidOf n l) (quidOf n l).length 0; omega, fun k hk => ?_⟩
    have h0 := ears_l0 (quidOf n l) (by omega) (quidOf n l).length k 0 [] (by omega) (by omega) (by simp)
    rw [List.nil_append, Int.natCast_zero] at h0
    unfold spec_EarsOf.f impl_EarsOf.f
    rw [poGood_eq _ _ (by omega), implTri_eq _ _ hl (by omega), h, Option.bind_some, Option.bind_some, specQuid_eq (by omega) hl (good_inR h) (by omega), implQuid_eq (by omega) hl (good_inR h) (by omega)]
    simp only [Option.bind_some, if_true]
    exact h0
theorem FnExactEarsOf : laws_FnExactEarsOf.Pure := by
  intro n l _ hl _
  refine ⟨l.length + 300, ?_⟩
  unfold laws_FnExactEarsOf.f
  rw [szDiagonalS_eq hl]
  by_cases h : (l.length : Int) > 1048576
  · rw [if_pos h, Option.bind_some, if_pos (by omega)]
  · rw [if_neg h, Option.bind_some, if_neg (by omega)]
    have hm : (l.map cvD).length = l.length := List.length_map ..
    obtain ⟨q, b, hq, hr⟩ := res n (l.map cvD) (by omega)
    have hT : ∀ k, l.length < k → laws_toDiagonalS.f k l = some (l.map cvD) := fun k hk => toDiagonalS_eq (by omega) hk
    have hS : spec_EarsOf.f (l.length + 300) n (l.map cvD) = some (q, b) := (hr _ (by omega)).1
    have hI : ∀ k, l.length + 250 ≤ k → impl_EarsOf.f k n (l.map cvD) = some (q, b) := fun k hk => (hr _ (by omega)).2
    have hE : ∀ k, l.length < k → laws_eqDiagonalS.f k (l.map cvD) (l.map cvD) = some true := fun k hk => eqDiagonalS_self (by omega) (by omega)
    have hM : ∀ k, l.length < k → laws_markDiagonalS.f k (l.map cvD) 1 = some (1 + 2 * ((l.map cvD).length : Int), markedD (l.map cvD).length 1) := fun k hk => markDiagonalS_eq (by omega) (by omega)
    have n1 : ¬ (1 + 2 * ((l.map cvD).length : Int) < 0) := by omega
    have hQ : ∀ k, 12 < k → laws_eqIntS.f k q q = some true := fun k hk => eqIntS_self (by omega) (by omega)
    have hMI : ∀ k, 12 < k → laws_markIntS.f k q 1 = some (1 + (q.length : Int), marked q.length 1) := fun k hk => markIntS_eq (by omega) (by omega)
    have hHI : ∀ k, 12 < k → laws_heldIntS.f k (marked q.length 1) 1 = some (1 + (q.length : Int)) := fun k hk => heldIntS_eq (by omega) (by omega)
    have n2 : ¬ (1 + (q.length : Int) < 0) := by omega
    repeat (first | dsimp only | rw [Option.bind_some] | rw [if_pos rfl] | rw [bne_self_eq_false] | rw [if_neg Bool.false_ne_true] | rw [hT _ (by omega)] | rw [hS] | rw [hI _ (by omega)] | rw [hE _ (by omega)] | rw [hM _ (by omega)] | rw [hQ _ (by omega)] | rw [hMI _ (by omega)] | rw [hHI _ (by omega)] | rw [if_neg n1] | rw [if_neg n2] | (simp only [laws_FnExactEarsOf.j0]) | (simp only [laws_FnExactEarsOf.j1]) | (simp only [laws_FnExactEarsOf.j2]))

end Go.Proofs.Ytmpmmhmnjdkgcab.Pure
