/- The plain statement of FnExactTrianglesBeside, over numbers and lists: the program's answer is the reference's. -/
import Derived.Test.YtmpmmhmnjdkgcabPFnExactTrianglesBesidex
set_option linter.unusedVariables false
set_option linter.unusedSimpArgs false
namespace Go.Proofs.Ytmpmmhmnjdkgcab.Pure
open Go.RowKit Go.Proofs.Ytmpmmhmnjdkgcab.PFnExactTrianglesBeside Go.Proofs.YtmpmmhmnjdkgcabW.PrintWords Go.Proofs.YtmpmmhmnjdkgcabW.PrintLast

theorem w64 {x : Int} (h0 : -9223372036854775808 ≤ x) (h1 : x ≤ 9223372036854775807) : wrap64 x = x := by
  unfold wrap64
  omega
theorem wf_i64 {x : Int} (h : (Lit.int .i64 x).wf = true) : -9223372036854775808 ≤ x ∧ x ≤ 9223372036854775807 := by
  simp [Lit.wf, IntKind.min, IntKind.max, IntKind.signed, IntKind.bits] at h
  omega

theorem within_eq (a b c : Int) : impl_within.f a b c = some (decide (b ≤ a ∧ a ≤ c)) := by
  unfold impl_within.f
  split <;> simp <;> omega

theorem l1In_eq (a b c : Int) : spec_l1In.f a b c = some (decide (b ≤ a ∧ a ≤ c)) := by
  unfold spec_l1In.f
  split <;> simp <;> omega

theorem some_f {p : Prop} [Decidable p] (h : ¬ p) : some false = some (decide p) := by rw [decide_eq_false h]
theorem some_t {p : Prop} [Decidable p] (h : p) : some true = some (decide p) := by rw [decide_eq_true h]
theorem some_d {p q : Prop} [Decidable p] [Decidable q] (h : p ↔ q) : some (decide p) = some (decide q) := by rw [decide_eq_decide.2 h]
theorem some_b {b : Bool} {p : Prop} [Decidable p] (h : b = true ↔ p) : some b = some (decide p) := by
  congr 1
  rw [Bool.eq_iff_iff, h, decide_eq_true_iff]

def IsDiag (n a b : Int) : Prop := 3 ≤ n ∧ n ≤ 12 ∧ 0 ≤ a ∧ b ≤ n - 1 ∧ 2 ≤ b - a ∧ b - a ≤ n - 2
instance (n a b : Int) : Decidable (IsDiag n a b) := by unfold IsDiag; infer_instance
theorem poIs_eq (n : Int) : spec_poIs.f n = some (decide (3 ≤ n ∧ n ≤ 12)) := by
  unfold spec_poIs.f
  simp only [l1In_eq, Option.bind_some]
theorem isPolygon_eq (n : Int) : impl_isPolygon.f n = some (decide (3 ≤ n ∧ n ≤ 12)) := by
  unfold impl_isPolygon.f
  simp only [within_eq, Option.bind_some]
theorem poDiagonal_eq (n a b : Int) : spec_poDiagonal.f n a b = some (decide (IsDiag n a b)) := by
  unfold spec_poDiagonal.f
  simp only [poIs_eq, l1In_eq, Option.bind_some, decide_eq_true_eq]
  by_cases hn : 3 ≤ n ∧ n ≤ 12
  · rw [if_pos hn, w64 (x := n - 1) (by omega) (by omega), w64 (x := n - 2) (by omega) (by omega)]
    by_cases ha : 0 ≤ a ∧ a ≤ n - 1
    · rw [if_pos ha]
      by_cases hb : 0 ≤ b ∧ b ≤ n - 1
      · rw [if_pos hb, w64 (x := b - a) (by omega) (by omega)]
        by_cases hc : b - a ≥ 2
        · rw [if_pos hc]; exact some_d (by unfold IsDiag; omega)
        · rw [if_neg hc]; exact some_f (by unfold IsDiag; omega)
      · rw [if_neg hb]; exact some_f (by unfold IsDiag; omega)
    · rw [if_neg ha]; exact some_f (by unfold IsDiag; omega)
  · rw [if_neg hn]; exact some_f (by unfold IsDiag; omega)
theorem isDiagonal_eq {n : Int} (hn : 3 ≤ n ∧ n ≤ 12) (a b : Int) : impl_isDiagonal.f n a b = some (decide (IsDiag n a b)) := by
  unfold impl_isDiagonal.f
  simp only [within_eq, Option.bind_some, decide_eq_true_eq]
  rw [w64 (x := n - 1) (by omega) (by omega)]
  by_cases ha : 0 ≤ a ∧ a ≤ n - 1
  · rw [if_pos ha]
    by_cases hb : 0 ≤ b ∧ b ≤ n - 1
    · rw [if_pos hb, w64 (x := b - a) (by omega) (by omega)]
      by_cases hc : b - a > 1
      · rw [if_pos hc]
        by_cases h0 : a = 0
        · rw [if_pos h0]; exact some_b (by unfold IsDiag; simp; omega)
        · rw [if_neg h0]; exact some_b (by unfold IsDiag; simp; omega)
      · rw [if_neg hc]; exact some_f (by unfold IsDiag; omega)
    · rw [if_neg hb]; exact some_f (by unfold IsDiag; omega)
  · rw [if_neg ha]; exact some_f (by unfold IsDiag; omega)

def Cross (a b c d : Int) : Prop := (a < c ∧ c < b ∧ b < d) ∨ (c < a ∧ a < d ∧ d < b)
instance (a b c d : Int) : Decidable (Cross a b c d) := by unfold Cross; infer_instance
theorem poCross_eq (a b c d : Int) : spec_poCross.f a b c d = some (decide (Cross a b c d)) := by
  unfold spec_poCross.f Cross
  (repeat' split) <;> first | exact some_t (by omega) | exact some_f (by omega) | exact some_d (by omega)
theorem doCross_eq (a b c d : Int) : impl_doCross.f a b c d = some (decide (Cross a b c d)) := by
  unfold impl_doCross.f Cross
  (repeat' split) <;> first | exact some_t (by omega) | exact some_f (by omega) | exact some_d (by omega)

theorem rd_nat {l : List Int} {i : Nat} (h : i < l.length) : rd l (i : Int) = l[i] := by
  unfold rd
  rw [Int.toNat_natCast, List.getD_eq_getElem?_getD, List.getElem?_eq_getElem h]
  rfl
theorem rd_drop {l : List Int} {i : Nat} (h : i < l.length) : l.drop i = rd l (i : Int) :: l.drop (i + 1) := by
  rw [rd_nat h, ← List.drop_eq_getElem_cons h]
theorem wsucc {i n : Nat} (h : i < n) (hn : n ≤ 9223372036854775807) : wrap64 ((i : Int) + 1) = ((i + 1 : Nat) : Int) := by
  rw [w64 (by omega) (by omega)]
  omega
theorem ite_t {α : Sort _} {a b : α} : (if true = true then a else b) = a := if_pos rfl
theorem ite_f {α : Sort _} {a b : α} : (if false = true then a else b) = b := if_neg (by decide)
theorem fuel {k d : Nat} (h : d < k) : ∃ m, k = m + 1 ∧ d ≤ m := ⟨k - 1, by omega, by omega⟩

theorem rdT_nat {l : List S54} {i : Nat} (h : i < l.length) : rd_T54 l (i : Int) = l[i] := by
  unfold rd_T54
  rw [Int.toNat_natCast, List.getD_eq_getElem?_getD, List.getElem?_eq_getElem h]
  rfl
theorem rdT_drop {l : List S54} {i : Nat} (h : i < l.length) : l.drop i = rd_T54 l (i : Int) :: l.drop (i + 1) := by
  rw [rdT_nat h, ← List.drop_eq_getElem_cons h]
theorem eqDiagonal_self (a b : Int) : laws_eqDiagonal.f a b a b = some true := by
  unfold laws_eqDiagonal.f
  rw [if_pos rfl, if_pos rfl]
theorem eqDiagonalS_l0 (l : List S54) (hl : l.length ≤ 9223372036854775807) : ∀ (d k i : Nat), i + d = l.length → d < k → laws_eqDiagonalS.l0 k l l (i : Int) = some true := by
  intro d
  induction d with
  | zero =>
    intro k i hi hk
    obtain ⟨k, rfl, _⟩ := fuel hk
    simp only [laws_eqDiagonalS.l0]
    rw [if_neg (by omega)]
  | succ d ih =>
    intro k i hi hk
    obtain ⟨k, rfl, hk⟩ := fuel hk
    simp only [laws_eqDiagonalS.l0]
    rw [if_pos (by omega), if_pos (by omega), if_pos (by omega), eqDiagonal_self, Option.bind_some, if_pos rfl, wsucc (n := l.length) (by omega) hl]
    exact ih k (i + 1) (by omega) (by omega)
theorem eqDiagonalS_self {l : List S54} {k : Nat} (hl : l.length ≤ 9223372036854775807) (hk : l.length < k) : laws_eqDiagonalS.f k l l = some true := by
  unfold laws_eqDiagonalS.f
  rw [if_pos rfl]
  exact eqDiagonalS_l0 l hl l.length k 0 (by omega) hk

def lessD (a b c d : Int) : Bool := decide (a < c ∨ (a = c ∧ b < d))
def okAt (n : Int) (l : List S54) (i : Nat) : Bool :=
  decide (IsDiag n (rd_T54 l i).f0 (rd_T54 l i).f1) && (decide (i = 0) || lessD (rd_T54 l ((i : Int) - 1)).f0 (rd_T54 l ((i : Int) - 1)).f1 (rd_T54 l i).f0 (rd_T54 l i).f1) &&
    !((l.take i).any fun e => decide (Cross (rd_T54 l i).f0 (rd_T54 l i).f1 e.f0 e.f1))
def goodFrom (n : Int) (l : List S54) : Nat → Nat → Bool
  | 0, _ => true
  | d + 1, i => okAt n l i && goodFrom n l d (i + 1)
/-- What both programs take a list to be: a triangulation of the polygon. -/
def Good (n : Int) (l : List S54) : Bool := decide (3 ≤ n ∧ n ≤ 12) && (decide ((l.length : Int) = n - 3) && goodFrom n l l.length 0)
theorem cmpInt_eq (a b : Int) : cmp_Compare_int.f a b = some (if a < b then -1 else if a > b then 1 else 0) := by
  unfold cmp_Compare_int.f cmp_isNaN_int.f
  simp only [Option.bind_some, bne_self_eq_false, Bool.false_eq_true, if_false]
  split
  · rfl
  · split <;> rfl
theorem cmpD_eq {k : Nat} (hk : 4 ≤ k) (a b c d : Int) : ∃ r, impl_compareDiagonals.f k a b c d = some r ∧ (decide (r ≥ 0) = !(lessD a b c d)) ∧ (r < 0 ↔ lessD a b c d = true) ∧ (r = 0 ↔ a = c ∧ b = d) := by
  obtain ⟨k, rfl⟩ : ∃ m, k = m + 4 := ⟨k - 4, by omega⟩
  unfold impl_compareDiagonals.f
  rw [cmpInt_eq, cmpInt_eq, Option.bind_some, Option.bind_some]
  have h0 : ∀ x y : Int, rd [x, y] 0 = x := fun _ _ => rfl
  have h1 : ∀ x y : Int, rd [x, y] 1 = y := fun _ _ => rfl
  have hor : ∀ x y : Int, cmp_Or_int.f (k + 4) [x, y] = some (if x = 0 then y else x) := by
    intro x y
    unfold cmp_Or_int.f
    have w1 : wrap64 (0 + 1) = 1 := w64 (by omega) (by omega)
    have w2 : wrap64 (1 + 1) = 2 := w64 (by omega) (by omega)
    have n2 : ((([x, y] : List Int).length : Nat) : Int) = 2 := rfl
    rw [n2]
    simp only [cmp_Or_int.l0, n2, h0, h1, w1, w2]
    by_cases hx : x = 0
    · by_cases hy : y = 0
      · simp [hx, hy]
      · simp [hx, hy]
    · simp [hx]
  rw [hor, Option.bind_some]
  refine ⟨_, rfl, ?_⟩
  unfold lessD
  by_cases h1 : a < c
  · simp [h1]; omega
  · by_cases h2 : a > c
    · simp [h1, h2]; omega
    · obtain rfl : a = c := by omega
      by_cases h3 : b < d
      · simp [h3]; omega
      · by_cases h4 : b > d
        · simp [h3, h4]; omega
        · simp [h3, h4]; omega
theorem wpred {i n : Nat} (h0 : 0 < i) (h : i < n) (hn : n ≤ 9223372036854775807) : wrap64 ((i : Int) - 1) = (i : Int) - 1 := by
  rw [w64 (by omega) (by omega)]
theorem any_cross (a b : Int) (l : List S54) (hl : l.length ≤ 1048576) : impl_Diagonal__at_impl_IsTriangulation_1.f l a b = some (l.any fun e => decide (Cross a b e.f0 e.f1)) := by
  unfold impl_Diagonal__at_impl_IsTriangulation_1.f
  rw [if_pos hl]
  congr 2
  funext e
  rw [Bool.eq_iff_iff, decide_eq_true_iff]
  unfold impl_Diagonal__at_impl_IsTriangulation_1.x Cross
  simp only [Bool.or_eq_true, Bool.and_eq_true, decide_eq_true_eq]
  omega
theorem implTri_l0 (n : Int) (hn : 3 ≤ n ∧ n ≤ 12) (l : List S54) (hl : l.length ≤ 1048576) : ∀ (d k i : Nat), i + d = l.length → d + 5 < k → impl_IsTriangulation.l0 k n l l (l.length : Int) (i : Int) = some (goodFrom n l d i) := by
  intro d
  induction d with
  | zero =>
    intro k i hi hk
    obtain ⟨k, rfl, _⟩ := fuel hk
    simp only [impl_IsTriangulation.l0, goodFrom]
    rw [if_neg (by omega)]
  | succ d ih =>
    intro k i hi hk
    obtain ⟨k, rfl, hk⟩ := fuel hk
    simp only [impl_IsTriangulation.l0, goodFrom, okAt]
    rw [if_pos (by omega), if_pos (by omega), if_pos (by omega), isDiagonal_eq hn, Option.bind_some]
    by_cases h1 : IsDiag n (rd_T54 l i).f0 (rd_T54 l i).f1
    · rw [decide_eq_true h1, ite_t]
      by_cases h2 : (i : Int) > 0
      · rw [if_pos h2, wpred (n := l.length) (by omega) (by omega) (by omega), if_pos (by omega), if_pos (by omega)]
        obtain ⟨r, hr, hr1, hr2, _⟩ := cmpD_eq (k := k) (by omega) (rd_T54 l ((i : Int) - 1)).f0 (rd_T54 l ((i : Int) - 1)).f1 (rd_T54 l i).f0 (rd_T54 l i).f1
        rw [hr, Option.bind_some]
        by_cases h3 : r ≥ 0
        · rw [if_pos h3]
          have : lessD (rd_T54 l ((i : Int) - 1)).f0 (rd_T54 l ((i : Int) - 1)).f1 (rd_T54 l i).f0 (rd_T54 l i).f1 = false := by
            rw [decide_eq_true h3] at hr1
            simpa using hr1.symm
          simp [this]
          omega
        · rw [if_neg h3, if_pos (by omega), any_cross _ _ _ (by rw [List.length_take]; omega), Option.bind_some, hr2.1 (by omega), Int.toNat_natCast, wsucc (n := l.length) (by omega) (by omega), ih k (i + 1) (by omega) (by omega)]
          cases h4 : (l.take i).any fun e => decide (Cross (rd_T54 l i).f0 (rd_T54 l i).f1 e.f0 e.f1) <;> simp
      · rw [if_neg h2, if_pos (by omega), any_cross _ _ _ (by rw [List.length_take]; omega), Option.bind_some, Int.toNat_natCast, wsucc (n := l.length) (by omega) (by omega), ih k (i + 1) (by omega) (by omega)]
        have h3 : i = 0 := by omega
        subst h3
        cases h4 : (l.take 0).any fun e => decide (Cross (rd_T54 l ((0 : Nat) : Int)).f0 (rd_T54 l ((0 : Nat) : Int)).f1 e.f0 e.f1) <;> simp
    · rw [decide_eq_false h1, ite_f]
      simp
theorem implTri_eq (n : Int) (l : List S54) {k : Nat} (hl : l.length ≤ 1048576) (hk : 20 ≤ k) : impl_IsTriangulation.f k n l = some (Good n l) := by
  unfold impl_IsTriangulation.f Good
  obtain ⟨k, rfl⟩ : ∃ m, k = m + 1 := ⟨k - 1, by omega⟩
  rw [isPolygon_eq, Option.bind_some]
  by_cases hn : 3 ≤ n ∧ n ≤ 12
  · rw [decide_eq_true hn, ite_t, w64 (x := n - 3) (by omega) (by omega)]
    simp only [impl_IsTriangulation.j0]
    by_cases h : (l.length : Int) = n - 3
    · rw [bne_eq_false_iff_eq.2 h, ite_f, decide_eq_true h, ← Int.natCast_zero, implTri_l0 n hn l hl l.length k 0 (by omega) (by omega)]
      rfl
    · rw [bne_iff_ne.2 h, ite_t, decide_eq_false h]
      rfl
  · rw [decide_eq_false hn, ite_f]
    simp only [impl_IsTriangulation.j0]
    rfl
theorem poLess_eq (a b c d : Int) : spec_poLess.f a b c d = some (lessD a b c d) := by
  unfold spec_poLess.f lessD
  (repeat' split) <;> first | exact some_t (by omega) | exact some_f (by omega) | exact some_d (by omega)
theorem poGood_l1 (n : Int) (l y : List S54) (L x a b : Int) (hy : y.length ≤ 1048576) : ∀ (d k q : Nat), q + d = y.length →
    spec_poGood.l1 (k + d + 1) n l l L x y (y.length : Int) (q : Int) a b = if (y.drop q).any (fun e => decide (Cross a b e.f0 e.f1)) = true then some false else spec_poGood.l0 k n l l L (wrap64 (x + 1)) := by
  intro d
  induction d with
  | zero =>
    intro k q hq
    simp only [spec_poGood.l1]
    rw [if_neg (by omega), List.drop_of_length_le (by omega)]
    simp
  | succ d ih =>
    intro k q hq
    obtain ⟨m, hm⟩ : ∃ m, m = k + d + 1 := ⟨_, rfl⟩
    rw [show k + (d + 1) + 1 = m + 1 by omega]
    simp only [spec_poGood.l1]
    rw [hm]
    rw [if_pos (by omega), if_pos (by omega), if_pos (by omega), poCross_eq, Option.bind_some, wsucc (n := y.length) (by omega) (by omega), ih k (q + 1) (by omega), rdT_drop (l := y) (i := q) (by omega), List.any_cons]
    by_cases h : Cross a b (rd_T54 y q).f0 (rd_T54 y q).f1
    · rw [decide_eq_true h, ite_t, Bool.true_or, if_pos rfl]
    · rw [decide_eq_false h, ite_f, Bool.false_or]
theorem poGood_j2 (n : Int) (l : List S54) (hl : l.length ≤ 9) (i : Nat) (hi : i < l.length) (a b : Int) (c : Bool) (r : Bool) {k : Nat} (hk : 12 ≤ k)
    (h : ∀ m, k - 12 ≤ m → spec_poGood.l0 m n l l (l.length : Int) ((i + 1 : Nat) : Int) = some r) :
    spec_poGood.j2 k n l (i : Int) l (l.length : Int) (i : Int) c a b = some (!c && (!((l.take i).any fun e => decide (Cross a b e.f0 e.f1)) && r)) := by
  obtain ⟨k, rfl⟩ : ∃ m, k = m + 1 := ⟨k - 1, by omega⟩
  simp only [spec_poGood.j2]
  cases c with
  | true => simp
  | false =>
    have hlen : (l.take i).length = i := by rw [List.length_take]; omega
    obtain ⟨m, hm⟩ : ∃ m, k = m + (l.take i).length + 1 := ⟨k - i - 1, by omega⟩
    rw [ite_f, if_pos (by omega), if_pos (by omega), Option.bind_some, Int.toNat_natCast]
    have h1 := poGood_l1 n l (l.take i) (l.length : Int) (i : Int) a b (by omega) (l.take i).length m 0 (by omega)
    rw [← hm, Int.natCast_zero, wsucc (n := l.length) hi (by omega), List.drop_zero] at h1
    rw [h1, h m (by omega)]
    cases h4 : (l.take i).any fun e => decide (Cross a b e.f0 e.f1) <;> simp
theorem poGood_l0 (n : Int) (hn : 3 ≤ n ∧ n ≤ 12) (l : List S54) (hl : l.length ≤ 9) : ∀ (d k i : Nat), i + d = l.length → 14 * d + 1 ≤ k → spec_poGood.l0 k n l l (l.length : Int) (i : Int) = some (goodFrom n l d i) := by
  intro d
  induction d with
  | zero =>
    intro k i hi hk
    obtain ⟨k, rfl, _⟩ := fuel (show 0 < k by omega)
    simp only [spec_poGood.l0, goodFrom]
    rw [if_neg (by omega)]
  | succ d ih =>
    intro k i hi hk
    obtain ⟨k, rfl⟩ : ∃ m, k = m + 1 := ⟨k - 1, by omega⟩
    have hj := fun (a b : Int) (c : Bool) => poGood_j2 n l hl i (by omega) a b c (goodFrom n l d (i + 1)) (k := k) (by omega) (fun m hm => ih m (i + 1) (by omega) (by omega))
    simp only [spec_poGood.l0, goodFrom, okAt]
    rw [if_pos (by omega), if_pos (by omega), if_pos (by omega), poDiagonal_eq, Option.bind_some]
    by_cases h1 : IsDiag n (rd_T54 l i).f0 (rd_T54 l i).f1
    · rw [decide_eq_true h1, ite_t]
      by_cases h2 : (i : Int) > 0
      · rw [if_pos h2, wpred (n := l.length) (by omega) (by omega) (by omega), if_pos (by omega), if_pos (by omega), poLess_eq, Option.bind_some, hj, decide_eq_false (show ¬ i = 0 by omega)]
        cases lessD (rd_T54 l ((i : Int) - 1)).f0 (rd_T54 l ((i : Int) - 1)).f1 (rd_T54 l i).f0 (rd_T54 l i).f1 <;> simp
      · rw [if_neg h2, hj, decide_eq_true (show i = 0 by omega)]
        simp
    · rw [decide_eq_false h1, ite_f, hj]
      simp
theorem poGood_eq (n : Int) (l : List S54) {k : Nat} (hk : 200 ≤ k) : spec_poGood.f k n l = some (Good n l) := by
  unfold spec_poGood.f Good
  obtain ⟨k, rfl⟩ : ∃ m, k = m + 1 := ⟨k - 1, by omega⟩
  rw [poIs_eq, Option.bind_some]
  by_cases hn : 3 ≤ n ∧ n ≤ 12
  · rw [decide_eq_true hn, ite_t, w64 (x := n - 3) (by omega) (by omega)]
    simp only [spec_poGood.j0]
    by_cases h : (l.length : Int) = n - 3
    · rw [bne_eq_false_iff_eq.2 h, ite_f, decide_eq_true h, ← Int.natCast_zero, poGood_l0 n hn l (by omega) l.length k 0 (by omega) (by omega)]
      rfl
    · rw [bne_iff_ne.2 h, ite_t, decide_eq_false h]
      rfl
  · rw [decide_eq_false hn, ite_f]
    simp only [spec_poGood.j0]
    rfl

theorem eqIntS_l0 (l : List Int) (hl : l.length ≤ 9223372036854775807) : ∀ (d k i : Nat), i + d = l.length → d < k → laws_eqIntS.l0 k l l (i : Int) = some true := by
  intro d
  induction d with
  | zero =>
    intro k i hi hk
    obtain ⟨k, rfl, _⟩ := fuel hk
    simp only [laws_eqIntS.l0]
    rw [if_neg (by omega)]
  | succ d ih =>
    intro k i hi hk
    obtain ⟨k, rfl, hk⟩ := fuel hk
    simp only [laws_eqIntS.l0]
    rw [if_pos (by omega), if_pos (by omega), if_pos (by omega), if_pos trivial, wsucc (n := l.length) (by omega) hl]
    exact ih k (i + 1) (by omega) (by omega)
theorem eqIntS_self {l : List Int} {k : Nat} (hl : l.length ≤ 9223372036854775807) (hk : l.length < k) : laws_eqIntS.f k l l = some true := by
  unfold laws_eqIntS.f
  rw [if_pos rfl]
  exact eqIntS_l0 l hl l.length k 0 (by omega) hk

def nthL (l : List (List Int)) (i : Nat) : List Int := l.getD i []
theorem rdL_nth (l : List (List Int)) (i : Nat) : rd_L1 l (i : Int) = nthL l i := rfl
theorem nthL_get {l : List (List Int)} {i : Nat} (h : i < l.length) : nthL l i = l[i] := by
  unfold nthL
  rw [List.getD_eq_getElem?_getD, List.getElem?_eq_getElem h]
  rfl
theorem rdL_drop {l : List (List Int)} {i : Nat} (h : i < l.length) : l.drop i = nthL l i :: l.drop (i + 1) := by
  rw [nthL_get h, ← List.drop_eq_getElem_cons h]
theorem nthL_mem {l : List (List Int)} {i : Nat} (h : i < l.length) : nthL l i ∈ l := by
  rw [nthL_get h]
  exact List.getElem_mem h
def sumLen : List (List Int) → Nat
  | [] => 0
  | y :: l => y.length + sumLen l
theorem sumLen_mem {l : List (List Int)} {y : List Int} (h : y ∈ l) : y.length ≤ sumLen l := by
  induction l with
  | nil => exact absurd h List.not_mem_nil
  | cons z l ih =>
    rw [sumLen]
    rcases List.mem_cons.1 h with rfl | h
    · omega
    · have := ih h
      omega
theorem eqIntSS_l0 (l : List (List Int)) (hb : l.length ≤ 1048576) (hw : ∀ y ∈ l, y.length ≤ 1048576) (B : Nat) (hB : ∀ y ∈ l, y.length ≤ B) : ∀ (d k i : Nat), i + d = l.length → d + B < k → laws_eqIntSS.l0 k l l (i : Int) = some true := by
  intro d
  induction d with
  | zero =>
    intro k i hi hk
    obtain ⟨k, rfl, _⟩ := fuel hk
    simp only [laws_eqIntSS.l0]
    rw [if_neg (by omega)]
  | succ d ih =>
    intro k i hi hk
    obtain ⟨k, rfl⟩ : ∃ m, k = m + 1 := ⟨k - 1, by omega⟩
    have hm := nthL_mem (l := l) (i := i) (by omega)
    simp only [laws_eqIntSS.l0]
    rw [if_pos (by omega), if_pos (by omega), if_pos (by omega), rdL_nth, eqIntS_self (by have := hw _ hm; omega) (by have := hB _ hm; omega), Option.bind_some, if_pos rfl, wsucc (n := l.length) (by omega) (by omega)]
    exact ih k (i + 1) (by omega) (by omega)
theorem eqIntSS_self {l : List (List Int)} (hb : l.length ≤ 1048576) (hs : sumLen l ≤ 1048576) {k : Nat} (hk : l.length + sumLen l < k) : laws_eqIntSS.f k l l = some true := by
  unfold laws_eqIntSS.f
  rw [if_pos rfl, ← Int.natCast_zero]
  exact eqIntSS_l0 l hb (fun y hy => by have := sumLen_mem hy; omega) (sumLen l) (fun y hy => sumLen_mem hy) l.length k 0 (by omega) (by omega)

theorem mn_eq2 (a b : Int) : mn a b = min a b := by
  unfold mn
  split
  · rw [Int.min_eq_right (by omega)]
  · rw [Int.min_eq_left (by omega)]
theorem mx_eq2 (a b : Int) : mx a b = max a b := by
  unfold mx
  split
  · rw [Int.max_eq_right (by omega)]
  · rw [Int.max_eq_left (by omega)]
def hasD (l : List S54) (a b : Int) : Bool := l.any fun d => decide (d.f0 = a ∧ d.f1 = b)
/-- Two corners a < b are joined by a side or by a diagonal. -/
def joined (n : Int) (l : List S54) (a b : Int) : Bool := decide (b - a = 1 ∨ b - a = n - 1) || hasD l a b
theorem poJoined_l0 (l : List S54) (hl : l.length ≤ 1048576) (a b : Int) : ∀ (d k i : Nat), i + d = l.length → d < k →
    spec_poJoined.l0 k a b l (l.length : Int) (i : Int) = some (hasD (l.drop i) a b) := by
  intro d
  induction d with
  | zero =>
    intro k i hi hk
    obtain ⟨k, rfl, _⟩ := fuel hk
    simp only [spec_poJoined.l0]
    rw [if_neg (by omega), List.drop_of_length_le (by omega)]
    rfl
  | succ d ih =>
    intro k i hi hk
    obtain ⟨k, rfl, hk⟩ := fuel hk
    simp only [spec_poJoined.l0]
    rw [if_pos (by omega), if_pos (by omega), if_pos (by omega), wsucc (n := l.length) (by omega) (by omega), ih k (i + 1) (by omega) (by omega), rdT_drop (l := l) (i := i) (by omega)]
    unfold hasD
    rw [List.any_cons]
    by_cases h1 : (rd_T54 l (i : Int)).f0 = a
    · rw [if_pos h1]
      by_cases h2 : (rd_T54 l (i : Int)).f1 = b
      · rw [if_pos h2, decide_eq_true ⟨h1, h2⟩, Bool.true_or]
      · rw [if_neg h2, decide_eq_false (fun h => h2 h.2), Bool.false_or]
    · rw [if_neg h1, decide_eq_false (fun h => h1 h.1), Bool.false_or]
theorem poJoined_eq (l : List S54) (hl : l.length ≤ 1048576) {n a b : Int} (hn : 3 ≤ n ∧ n ≤ 12) (ha : 0 ≤ a) (hab : a < b) (hb : b < n) {k : Nat} (hk : l.length + 2 ≤ k) : spec_poJoined.f k n l a b = some (joined n l a b) := by
  obtain ⟨k, rfl⟩ : ∃ m, k = m + 1 := ⟨k - 1, by omega⟩
  have h0 := poJoined_l0 l hl a b l.length k 0 (by omega) (by omega)
  rw [Int.natCast_zero, List.drop_zero] at h0
  unfold spec_poJoined.f joined
  rw [w64 (x := b - a) (by omega) (by omega), w64 (x := n - 1) (by omega) (by omega)]
  by_cases h1 : b - a = 1
  · rw [if_pos h1, decide_eq_true (Or.inl h1), Bool.true_or]
    simp only [spec_poJoined.j0, if_true]
  · rw [if_neg h1]
    by_cases h2 : b - a = n - 1
    · rw [decide_eq_true (Or.inr h2), Bool.true_or, h2, beq_self_eq_true]
      simp only [spec_poJoined.j0, if_true]
    · rw [decide_eq_false (fun h => h.elim h1 h2), Bool.false_or, beq_eq_false_iff_ne.2 h2]
      simp only [spec_poJoined.j0, Bool.false_eq_true, if_false]
      exact h0
theorem indexD_l0 (l : List S54) (hl : l.length ≤ 1048576) (a b : Int) : ∀ (d k i : Nat), i + d = l.length → d < k →
    ∃ j : Int, impl_Diagonal_103.l0 k l (l.length : Int) (i : Int) a b = some j ∧ decide (j ≥ 0) = hasD (l.drop i) a b := by
  intro d
  induction d with
  | zero =>
    intro k i hi hk
    obtain ⟨k, rfl, _⟩ := fuel hk
    simp only [impl_Diagonal_103.l0]
    rw [if_neg (by omega), List.drop_of_length_le (by omega)]
    exact ⟨-1, rfl, rfl⟩
  | succ d ih =>
    intro k i hi hk
    obtain ⟨k, rfl, hk⟩ := fuel hk
    simp only [impl_Diagonal_103.l0]
    rw [if_pos (by omega), if_pos (by omega), if_pos (by omega), wsucc (n := l.length) (by omega) (by omega), rdT_drop (l := l) (i := i) (by omega)]
    unfold hasD
    rw [List.any_cons]
    by_cases h : (rd_T54 l (i : Int)).f0 = a ∧ (rd_T54 l (i : Int)).f1 = b
    · rw [if_pos (by rw [h.1, h.2]; simp), decide_eq_true h, Bool.true_or]
      exact ⟨_, rfl, decide_eq_true (by omega)⟩
    · have : ¬ ((a == (rd_T54 l (i : Int)).f0 && (b == (rd_T54 l (i : Int)).f1)) = true) := by
        rw [Bool.and_eq_true, beq_iff_eq, beq_iff_eq]
        exact fun h2 => h ⟨h2.1.symm, h2.2.symm⟩
      rw [if_neg this, decide_eq_false h, Bool.false_or]
      exact ih k (i + 1) (by omega) (by omega)
theorem containsD_eq (l : List S54) (hl : l.length ≤ 1048576) (a b : Int) {k : Nat} (hk : l.length < k) : impl_Diagonal_100.f k l a b = some (hasD l a b) := by
  obtain ⟨j, h1, h2⟩ := indexD_l0 l hl a b l.length k 0 (by omega) hk
  rw [Int.natCast_zero] at h1
  unfold impl_Diagonal_100.f impl_Diagonal_103.f
  rw [h1, Option.bind_some, h2, List.drop_zero]
theorem isSide_eq (l : List S54) (hl : l.length ≤ 1048576) {n a b : Int} (hn : 3 ≤ n ∧ n ≤ 12) (ha : 0 ≤ a) (hab : a < b) (hb : b < n) {k : Nat} (hk : l.length + 2 ≤ k) : impl_isSide.f k n l a b = some (joined n l a b) := by
  have e1 : mn a b = a := by rw [mn_eq2]; omega
  have e2 : mx a b = b := by rw [mx_eq2]; omega
  unfold impl_isSide.f joined
  rw [e1, e2, w64 (x := a + 1) (by omega) (by omega), w64 (x := n - 1) (by omega) (by omega), containsD_eq l hl a b (by omega), Option.bind_some]
  by_cases h1 : b = a + 1
  · rw [if_pos h1, decide_eq_true (Or.inl (by omega)), Bool.true_or]
  · rw [if_neg h1]
    by_cases h2 : a = 0 ∧ b = n - 1
    · rw [if_pos h2.1, if_pos h2.2, decide_eq_true (Or.inr (by omega)), Bool.true_or]
    · have h3 : ¬ (b - a = 1 ∨ b - a = n - 1) := by omega
      rw [decide_eq_false h3, Bool.false_or]
      by_cases h4 : a = 0
      · rw [if_pos h4, if_neg (fun h5 => h2 ⟨h4, h5⟩)]
      · rw [if_neg h4]
/-- The triangles with the corners a < b, the third from c on. -/
def triC (n : Int) (l : List S54) (a b : Nat) : Nat → Nat → List (List Int) → List (List Int)
  | 0, _, X => X
  | d + 1, c, X => triC n l a b d (c + 1) (if (joined n l a b && joined n l b c && joined n l a c) = true then X ++ [[(a : Int), (b : Int), (c : Int)]] else X)
def triB (m : Nat) (n : Int) (l : List S54) (a : Nat) : Nat → Nat → List (List Int) → List (List Int)
  | 0, _, X => X
  | d + 1, b, X => triB m n l a d (b + 1) (triC n l a b (m - (b + 1)) (b + 1) X)
def triA (m : Nat) (n : Int) (l : List S54) : Nat → Nat → List (List Int) → List (List Int)
  | 0, _, X => X
  | d + 1, a, X => triA m n l d (a + 1) (triB m n l a (m - (a + 1)) (a + 1) X)
theorem triC_len (n : Int) (l : List S54) (a b : Nat) : ∀ (d c : Nat) (X : List (List Int)), (triC n l a b d c X).length ≤ X.length + d
  | 0, _, X => by rw [triC]; omega
  | d + 1, c, X => by
    have := triC_len n l a b d (c + 1) (if (joined n l a b && joined n l b c && joined n l a c) = true then X ++ [[(a : Int), (b : Int), (c : Int)]] else X)
    rw [triC]
    split at this
    · rw [List.length_append, List.length_singleton] at this
      rename_i h
      rw [if_pos h]
      omega
    · rename_i h
      rw [if_neg h]
      omega
theorem triB_len (m : Nat) (hm : m ≤ 12) (n : Int) (l : List S54) (a : Nat) : ∀ (d b : Nat) (X : List (List Int)), (triB m n l a d b X).length ≤ X.length + 12 * d
  | 0, _, X => by rw [triB]; omega
  | d + 1, b, X => by
    have h1 := triB_len m hm n l a d (b + 1) (triC n l a b (m - (b + 1)) (b + 1) X)
    have h2 := triC_len n l a b (m - (b + 1)) (b + 1) X
    rw [triB]
    omega
theorem triA_len (m : Nat) (hm : m ≤ 12) (n : Int) (l : List S54) : ∀ (d a : Nat) (X : List (List Int)), (triA m n l d a X).length ≤ X.length + 144 * d
  | 0, _, X => by rw [triA]; omega
  | d + 1, a, X => by
    have h1 := triA_len m hm n l d (a + 1) (triB m n l a (m - (a + 1)) (a + 1) X)
    have h2 := triB_len m hm n l a (m - (a + 1)) (a + 1) X
    rw [triA]
    omega
theorem triC_mem (n : Int) (l : List S54) (a b : Nat) : ∀ (d c : Nat) (X : List (List Int)), (∀ y ∈ X, y.length = 3) → ∀ y ∈ triC n l a b d c X, y.length = 3
  | 0, _, X, h => by rw [triC]; exact h
  | d + 1, c, X, h => by
    rw [triC]
    refine triC_mem n l a b d (c + 1) _ ?_
    split
    · intro y hy
      rcases List.mem_append.1 hy with hy | hy
      · exact h y hy
      · rw [List.mem_singleton] at hy
        rw [hy]
        rfl
    · exact h
theorem triB_mem (m : Nat) (n : Int) (l : List S54) (a : Nat) : ∀ (d b : Nat) (X : List (List Int)), (∀ y ∈ X, y.length = 3) → ∀ y ∈ triB m n l a d b X, y.length = 3
  | 0, _, X, h => by rw [triB]; exact h
  | d + 1, b, X, h => by rw [triB]; exact triB_mem m n l a d (b + 1) _ (triC_mem n l a b _ _ X h)
theorem triA_mem (m : Nat) (n : Int) (l : List S54) : ∀ (d a : Nat) (X : List (List Int)), (∀ y ∈ X, y.length = 3) → ∀ y ∈ triA m n l d a X, y.length = 3
  | 0, _, X, h => by rw [triA]; exact h
  | d + 1, a, X, h => by rw [triA]; exact triA_mem m n l d (a + 1) _ (triB_mem m n l a _ _ X h)
theorem joined3 (n : Int) (l : List S54) (k : Nat) (x y z : Option Bool) (p q r : Bool) (hx : x = some p) (hy : y = some q) (hz : z = some r) {α : Type} (A B : Option α) :
    (x.bind fun t => if t = true then (y.bind fun t => if t = true then (z.bind fun t => if t = true then A else B) else B) else B) = if (p && q && r) = true then A else B := by
  subst hx hy hz
  cases p <;> cases q <;> cases r <;> rfl
theorem spec_l2 (l : List S54) (hl : l.length ≤ 100) (m : Nat) (hm : 3 ≤ m ∧ m ≤ 12) (a b : Nat) (hab : a < b) : ∀ (d k c : Nat) (X : List (List Int)), c + d = m → b < c → b < m → l.length + 10 ≤ k → X.length + d ≤ 10000 →
    spec_poTriangles.l2 (k + d + 1) (m : Int) l X (a : Int) (b : Int) (c : Int) = spec_poTriangles.l1 k (m : Int) l (triC m l a b d c X) (a : Int) ((b + 1 : Nat) : Int) := by
  intro d
  induction d with
  | zero =>
    intro k c X hc hbc hbm hk hX
    simp only [spec_poTriangles.l2]
    rw [if_neg (by omega), triC, w64 (x := (b : Int) + 1) (by omega) (by omega)]
    rfl
  | succ d ih =>
    intro k c X hc hbc hbm hk hX
    obtain ⟨q, hq⟩ : ∃ q, q = k + d + 1 := ⟨_, rfl⟩
    rw [show k + (d + 1) + 1 = q + 1 by omega]
    simp only [spec_poTriangles.l2]
    rw [if_pos (by omega), joined3 (m : Int) l q _ _ _ _ _ _ (poJoined_eq l (by omega) (n := (m : Int)) (by omega) (by omega) (by omega) (by omega) (by omega)) (poJoined_eq l (by omega) (n := (m : Int)) (by omega) (by omega) (by omega) (by omega) (by omega)) (poJoined_eq l (by omega) (n := (m : Int)) (by omega) (by omega) (by omega) (by omega) (by omega)), triC, w64 (x := (c : Int) + 1) (by omega) (by omega), if_pos (show X.length < 5864062014805 by omega), show (c : Int) + 1 = ((c + 1 : Nat) : Int) by omega, hq]
    split
    · exact ih k (c + 1) _ (by omega) (by omega) hbm hk (by rw [List.length_append, List.length_singleton]; omega)
    · exact ih k (c + 1) X (by omega) (by omega) hbm hk (by omega)
theorem impl_l2 (l : List S54) (hl : l.length ≤ 100) (m : Nat) (hm : 3 ≤ m ∧ m ≤ 12) (a b : Nat) (hab : a < b) (y z : Int) : ∀ (d k c : Nat) (X : List (List Int)), c + d = m → b < c → b < m → l.length + 10 ≤ k → X.length + d ≤ 10000 →
    impl_triangles.l2 (k + d + 1) (m : Int) l X (a : Int) (b : Int) (c : Int) y z = impl_triangles.l1 k (m : Int) l (triC m l a b d c X) (a : Int) ((b + 1 : Nat) : Int) y z := by
  intro d
  induction d with
  | zero =>
    intro k c X hc hbc hbm hk hX
    simp only [impl_triangles.l2]
    rw [if_neg (by omega), triC, w64 (x := (b : Int) + 1) (by omega) (by omega)]
    rfl
  | succ d ih =>
    intro k c X hc hbc hbm hk hX
    obtain ⟨q, hq⟩ : ∃ q, q = k + d + 1 := ⟨_, rfl⟩
    rw [show k + (d + 1) + 1 = q + 1 by omega]
    simp only [impl_triangles.l2]
    rw [if_pos (by omega), joined3 (m : Int) l q _ _ _ _ _ _ (isSide_eq l (by omega) (n := (m : Int)) (by omega) (by omega) (by omega) (by omega) (by omega)) (isSide_eq l (by omega) (n := (m : Int)) (by omega) (by omega) (by omega) (by omega) (by omega)) (isSide_eq l (by omega) (n := (m : Int)) (by omega) (by omega) (by omega) (by omega) (by omega)), triC, w64 (x := (c : Int) + 1) (by omega) (by omega), if_pos (show X.length < 5864062014805 by omega), show (c : Int) + 1 = ((c + 1 : Nat) : Int) by omega, hq]
    split
    · exact ih k (c + 1) _ (by omega) (by omega) hbm hk (by rw [List.length_append, List.length_singleton]; omega)
    · exact ih k (c + 1) X (by omega) (by omega) hbm hk (by omega)
theorem spec_l1 (l : List S54) (hl : l.length ≤ 100) (m : Nat) (hm : 3 ≤ m ∧ m ≤ 12) (a : Nat) : ∀ (d k b : Nat) (X : List (List Int)), b + d = m → a < b → a < m → l.length + 20 * d + 20 ≤ k → X.length + 12 * d ≤ 9000 →
    ∃ k', k ≤ k' + 20 * d + 1 ∧ spec_poTriangles.l1 k (m : Int) l X (a : Int) (b : Int) = spec_poTriangles.l0 k' (m : Int) l (triB m m l a d b X) ((a + 1 : Nat) : Int) := by
  intro d
  induction d with
  | zero =>
    intro k b X hb hab ham hk hX
    obtain ⟨k, rfl⟩ : ∃ q, k = q + 1 := ⟨k - 1, by omega⟩
    refine ⟨k, by omega, ?_⟩
    simp only [spec_poTriangles.l1]
    rw [if_neg (by omega), triB, w64 (x := (a : Int) + 1) (by omega) (by omega)]
    rfl
  | succ d ih =>
    intro k b X hb hab ham hk hX
    obtain ⟨q, hq⟩ : ∃ q, k = (q + (m - (b + 1)) + 1) + 1 := ⟨k - (m - (b + 1)) - 2, by omega⟩
    have hlen := triC_len m l a b (m - (b + 1)) (b + 1) X
    obtain ⟨k', h1, h2⟩ := ih q (b + 1) (triC m l a b (m - (b + 1)) (b + 1) X) (by omega) (by omega) ham (by omega) (by omega)
    refine ⟨k', by omega, ?_⟩
    rw [hq]
    simp only [spec_poTriangles.l1]
    rw [if_pos (by omega), w64 (x := (b : Int) + 1) (by omega) (by omega), show (b : Int) + 1 = ((b + 1 : Nat) : Int) by omega, spec_l2 l hl m hm a b hab (m - (b + 1)) q (b + 1) X (by omega) (by omega) (by omega) (by omega) (by omega), triB]
    exact h2
theorem impl_l1 (l : List S54) (hl : l.length ≤ 100) (m : Nat) (hm : 3 ≤ m ∧ m ≤ 12) (a : Nat) (y : Int) : ∀ (d k b : Nat) (X : List (List Int)), b + d = m → a < b → a < m → l.length + 20 * d + 20 ≤ k → X.length + 12 * d ≤ 9000 →
    ∃ k', k ≤ k' + 20 * d + 1 ∧ impl_triangles.l1 k (m : Int) l X (a : Int) (b : Int) y (a : Int) = impl_triangles.l0 k' (m : Int) l (triB m m l a d b X) y ((a + 1 : Nat) : Int) := by
  intro d
  induction d with
  | zero =>
    intro k b X hb hab ham hk hX
    obtain ⟨k, rfl⟩ : ∃ q, k = q + 1 := ⟨k - 1, by omega⟩
    refine ⟨k, by omega, ?_⟩
    simp only [impl_triangles.l1]
    rw [if_neg (by omega), triB, w64 (x := (a : Int) + 1) (by omega) (by omega)]
    rfl
  | succ d ih =>
    intro k b X hb hab ham hk hX
    obtain ⟨q, hq⟩ : ∃ q, k = (q + (m - (b + 1)) + 1) + 1 := ⟨k - (m - (b + 1)) - 2, by omega⟩
    have hlen := triC_len m l a b (m - (b + 1)) (b + 1) X
    obtain ⟨k', h1, h2⟩ := ih q (b + 1) (triC m l a b (m - (b + 1)) (b + 1) X) (by omega) (by omega) ham (by omega) (by omega)
    refine ⟨k', by omega, ?_⟩
    rw [hq]
    simp only [impl_triangles.l1]
    rw [if_pos (by omega), w64 (x := (b : Int) + 1) (by omega) (by omega), show (b : Int) + 1 = ((b + 1 : Nat) : Int) by omega, impl_l2 l hl m hm a b hab y (a : Int) (m - (b + 1)) q (b + 1) X (by omega) (by omega) (by omega) (by omega) (by omega), triB]
    exact h2
theorem spec_l0t (l : List S54) (hl : l.length ≤ 100) (m : Nat) (hm : 3 ≤ m ∧ m ≤ 12) : ∀ (d k a : Nat) (X : List (List Int)), a + d = m → l.length + 300 * d + 300 ≤ k → X.length + 144 * d ≤ 8000 →
    spec_poTriangles.l0 k (m : Int) l X (a : Int) = some (triA m m l d a X) := by
  intro d
  induction d with
  | zero =>
    intro k a X ha hk hX
    obtain ⟨k, rfl⟩ : ∃ q, k = q + 1 := ⟨k - 1, by omega⟩
    simp only [spec_poTriangles.l0]
    rw [if_neg (by omega), triA]
  | succ d ih =>
    intro k a X ha hk hX
    obtain ⟨k, rfl⟩ : ∃ q, k = q + 1 := ⟨k - 1, by omega⟩
    have hlen := triB_len m (by omega) m l a (m - (a + 1)) (a + 1) X
    obtain ⟨k', h1, h2⟩ := spec_l1 l hl m hm a (m - (a + 1)) k (a + 1) X (by omega) (by omega) (by omega) (by omega) (by omega)
    simp only [spec_poTriangles.l0]
    rw [if_pos (by omega), w64 (x := (a : Int) + 1) (by omega) (by omega), show (a : Int) + 1 = ((a + 1 : Nat) : Int) by omega, h2, triA]
    exact ih k' (a + 1) _ (by omega) (by omega) (by omega)
theorem impl_l0t (l : List S54) (hl : l.length ≤ 100) (m : Nat) (hm : 3 ≤ m ∧ m ≤ 12) : ∀ (d k a : Nat) (X : List (List Int)), a + d = m → l.length + 300 * d + 300 ≤ k → X.length + 144 * d ≤ 8000 →
    impl_triangles.l0 k (m : Int) l X (m : Int) (a : Int) = some (triA m m l d a X) := by
  intro d
  induction d with
  | zero =>
    intro k a X ha hk hX
    obtain ⟨k, rfl⟩ : ∃ q, k = q + 1 := ⟨k - 1, by omega⟩
    simp only [impl_triangles.l0]
    rw [if_neg (by omega), triA]
  | succ d ih =>
    intro k a X ha hk hX
    obtain ⟨k, rfl⟩ : ∃ q, k = q + 1 := ⟨k - 1, by omega⟩
    have hlen := triB_len m (by omega) m l a (m - (a + 1)) (a + 1) X
    obtain ⟨k', h1, h2⟩ := impl_l1 l hl m hm a (m : Int) (m - (a + 1)) k (a + 1) X (by omega) (by omega) (by omega) (by omega) (by omega)
    simp only [impl_triangles.l0]
    rw [if_pos (by omega), w64 (x := (a : Int) + 1) (by omega) (by omega), show (a : Int) + 1 = ((a + 1 : Nat) : Int) by omega, h2, triA]
    exact ih k' (a + 1) _ (by omega) (by omega) (by omega)
/-- The triangles of a polygon. -/
def trisOf (n : Int) (l : List S54) : List (List Int) := triA n.toNat n.toNat l n.toNat 0 []
theorem trisOf_len (n : Int) (hn : 3 ≤ n ∧ n ≤ 12) (l : List S54) : (trisOf n l).length ≤ 1728 := by
  have := triA_len n.toNat (by omega) n.toNat l n.toNat 0 []
  unfold trisOf
  rw [List.length_nil] at this
  omega
theorem trisOf_mem (n : Int) (l : List S54) : ∀ y ∈ trisOf n l, y.length = 3 := triA_mem _ _ l _ _ _ (fun y hy => absurd hy List.not_mem_nil)
theorem sumLen_const {c : Nat} : ∀ {X : List (List Int)}, (∀ y ∈ X, y.length ≤ c) → sumLen X ≤ c * X.length
  | [], _ => by simp [sumLen]
  | x :: X, h => by
    have h1 := sumLen_const (X := X) (fun y hy => h y (List.mem_cons_of_mem _ hy))
    have h2 := h x (List.mem_cons_self ..)
    rw [sumLen, List.length_cons, Nat.mul_succ]
    omega
theorem specTris_eq {n : Int} (hn : 3 ≤ n ∧ n ≤ 12) {l : List S54} (hl : l.length ≤ 100) {k : Nat} (hk : 4200 ≤ k) : spec_poTriangles.f k n l = some (trisOf n l) := by
  obtain ⟨m, rfl⟩ : ∃ m : Nat, n = m := ⟨n.toNat, by omega⟩
  unfold spec_poTriangles.f trisOf
  rw [Int.toNat_natCast]
  exact spec_l0t l hl m (by omega) m k 0 [] (by omega) (by omega) (by simp; omega)
theorem implTris_eq {n : Int} (hn : 3 ≤ n ∧ n ≤ 12) {l : List S54} (hl : l.length ≤ 100) {k : Nat} (hk : 4200 ≤ k) : impl_triangles.f k n l = some (trisOf n l) := by
  obtain ⟨m, rfl⟩ : ∃ m : Nat, n = m := ⟨n.toNat, by omega⟩
  unfold impl_triangles.f trisOf
  rw [Int.toNat_natCast]
  exact impl_l0t l hl m (by omega) m k 0 [] (by omega) (by omega) (by simp; omega)

def qAdd (q : List Int) (a b : Int) : List Int := (q.set a.toNat (wrap64 (rd q a + 1))).set b.toNat (wrap64 (rd (q.set a.toNat (wrap64 (rd q a + 1))) b + 1))
def qFold (q : List Int) : List S54 → List Int
  | [] => q
  | d :: l => qFold (qAdd q d.f0 d.f1) l
theorem qAdd_length (q : List Int) (a b : Int) : (qAdd q a b).length = q.length := by simp [qAdd]
theorem qFold_length : ∀ (l : List S54) (q : List Int), (qFold q l).length = q.length
  | [], _ => rfl
  | d :: l, q => by rw [qFold, qFold_length l, qAdd_length]
/-- The triangles at each corner. -/
def quidOf (n : Int) (l : List S54) : List Int := qFold (List.replicate n.toNat 1) l
theorem quidOf_length (n : Int) (l : List S54) : (quidOf n l).length = n.toNat := by rw [quidOf, qFold_length, List.length_replicate]
def InR (n : Int) (l : List S54) : Prop := ∀ i : Nat, i < l.length → 0 ≤ (rd_T54 l i).f0 ∧ (rd_T54 l i).f0 < n ∧ 0 ≤ (rd_T54 l i).f1 ∧ (rd_T54 l i).f1 < n
theorem goodFrom_ok (n : Int) (l : List S54) : ∀ (d i : Nat), goodFrom n l d i = true ↔ ∀ j, i ≤ j → j < i + d → okAt n l j = true := by
  intro d
  induction d with
  | zero => intro i; simp [goodFrom]; intro j h1 h2; omega
  | succ d ih =>
    intro i
    rw [goodFrom, Bool.and_eq_true, ih]
    constructor
    · rintro ⟨h1, h2⟩ j hj1 hj2
      by_cases e : j = i
      · rw [e]; exact h1
      · exact h2 j (by omega) (by omega)
    · intro h
      exact ⟨h i (by omega) (by omega), fun j h1 h2 => h j (by omega) (by omega)⟩
theorem good_iff (n : Int) (l : List S54) : Good n l = true ↔ (3 ≤ n ∧ n ≤ 12) ∧ (l.length : Int) = n - 3 ∧ ∀ j, j < l.length → okAt n l j = true := by
  unfold Good
  rw [Bool.and_eq_true, Bool.and_eq_true, goodFrom_ok, decide_eq_true_eq, decide_eq_true_eq]
  constructor
  · rintro ⟨h1, h2, h3⟩
    exact ⟨h1, h2, fun j hj => h3 j (by omega) (by omega)⟩
  · rintro ⟨h1, h2, h3⟩
    exact ⟨h1, h2, fun j hj1 hj2 => h3 j (by omega)⟩
theorem okAt_diag {n : Int} {l : List S54} {j : Nat} (h : okAt n l j = true) : IsDiag n (rd_T54 l j).f0 (rd_T54 l j).f1 := by
  unfold okAt at h
  rw [Bool.and_eq_true, Bool.and_eq_true] at h
  exact of_decide_eq_true h.1.1
theorem good_inR {n : Int} {l : List S54} (h : Good n l = true) : InR n l := by
  intro i hi
  have h1 := okAt_diag (((good_iff n l).1 h).2.2 i hi)
  unfold IsDiag at h1
  omega
def marked : Nat → Int → List Int
  | 0, _ => []
  | n + 1, j => j :: marked n (j + 1)
theorem marked_length : ∀ n j, (marked n j).length = n
  | 0, _ => rfl
  | n + 1, j => by rw [marked, List.length_cons, marked_length n]
theorem markIntS_l0 : ∀ (d k i : Nat) (l : List Int) (j : Int), i + d = l.length → d < k → l.length ≤ 1000000000 → 0 ≤ j → j + d ≤ 4000000000 →
    laws_markIntS.l0 k l j (i : Int) = some (j + d, l.take i ++ marked d j) := by
  intro d
  induction d with
  | zero =>
    intro k i l j hi hk hl hj hb
    obtain ⟨k, rfl, _⟩ := fuel hk
    simp only [laws_markIntS.l0]
    rw [if_neg (by omega), List.take_of_length_le (by omega)]
    simp [marked]
  | succ d ih =>
    intro k i l j hi hk hl hj hb
    obtain ⟨k, rfl, hk⟩ := fuel hk
    simp only [laws_markIntS.l0]
    rw [if_pos (by omega), if_pos (by omega), wsucc (n := l.length) (by omega) (by omega), w64 (x := j + 1) (by omega) (by omega), Int.toNat_natCast,
      ih k (i + 1) _ (j + 1) (by rw [List.length_set]; omega) (by omega) (by rw [List.length_set]; omega) (by omega) (by omega)]
    rw [List.take_succ_eq_append_getElem (by rw [List.length_set]; omega), List.getElem_set_self, List.take_set_of_le (by omega), marked, List.append_assoc]
    congr 2
    omega
theorem markIntS_eq {l : List Int} {k : Nat} (hk : l.length < k) (hl : l.length ≤ 1000000000) : laws_markIntS.f k l 1 = some (1 + (l.length : Int), marked l.length 1) := by
  unfold laws_markIntS.f
  have := markIntS_l0 l.length k 0 l 1 (by omega) hk hl (by omega) (by omega)
  simpa using this
theorem heldIntS_l0 (p : List Int) : ∀ (d k : Nat) (p : List Int) (j : Int), d < k → p.length + d ≤ 1000000000 → 0 ≤ j → j + d ≤ 4000000000 →
    laws_heldIntS.l0 k (p ++ marked d j) j (p.length : Int) = some (j + d) := by
  intro d
  induction d with
  | zero =>
    intro k p j hk hl hj hb
    obtain ⟨k, rfl, _⟩ := fuel hk
    simp only [laws_heldIntS.l0]
    rw [if_neg (by simp [marked])]
    simp
  | succ d ih =>
    intro k p j hk hl hj hb
    obtain ⟨k, rfl, hk⟩ := fuel hk
    simp only [laws_heldIntS.l0]
    have hlen : (p ++ marked (d + 1) j).length = p.length + (d + 1) := by rw [List.length_append, marked_length]
    have hr : rd (p ++ marked (d + 1) j) (p.length : Int) = j := by
      rw [rd_nat (by omega), List.getElem_append_right (Nat.le_refl _)]
      simp [marked]
    rw [if_pos (by omega), if_pos (by omega), if_pos hr, wsucc (n := p.length + (d + 1)) (by omega) (by omega), w64 (x := j + 1) (by omega) (by omega)]
    have h := ih k (p ++ [j]) (j + 1) (by omega) (by rw [List.length_append]; simp; omega) (by omega) (by omega)
    rw [List.length_append, List.length_singleton, List.append_assoc] at h
    rw [marked]
    refine h.trans ?_
    congr 1
    omega
theorem heldIntS_eq {n k : Nat} (hk : n < k) (hl : n ≤ 1000000000) : laws_heldIntS.f k (marked n 1) 1 = some (1 + (n : Int)) := by
  unfold laws_heldIntS.f
  exact heldIntS_l0 [] n k [] 1 hk (by simpa using hl) (by omega) (by omega)

def markedL : List (List Int) → Int → List (List Int)
  | [], _ => []
  | y :: l, j => marked y.length j :: markedL l (j + y.length)
theorem getD_mid (p l : List (List Int)) (y : List Int) : (p ++ y :: l).getD ((p.length : Int)).toNat [] = y := by
  rw [Int.toNat_natCast, List.getD_eq_getElem?_getD, List.getElem?_append_right (Nat.le_refl _)]
  simp
theorem set_mid (p l : List (List Int)) (y z : List Int) : (p ++ y :: l).set ((p.length : Int)).toNat z = (p ++ [z]) ++ l := by
  rw [Int.toNat_natCast, List.set_append_right _ _ (Nat.le_refl _)]
  simp
theorem markIntSS_l0 (B : Nat) : ∀ (l p : List (List Int)) (k : Nat) (j : Int), l.length + B < k → p.length + l.length ≤ 1000000000 → sumLen l ≤ 1000000000 → (∀ y ∈ l, y.length ≤ B) → 0 ≤ j → j + sumLen l ≤ 4000000000 →
    laws_markIntSS.l0 k (p ++ l) j (p.length : Int) = some (j + sumLen l, p ++ markedL l j) := by
  intro l
  induction l with
  | nil =>
    intro p k j hk hl hs hB h0 h1
    obtain ⟨k, rfl⟩ : ∃ m, k = m + 1 := ⟨k - 1, by omega⟩
    simp only [laws_markIntSS.l0]
    rw [if_neg (by simp)]
    simp [markedL, sumLen]
  | cons y l ih =>
    intro p k j hk hl hs hB h0 h1
    obtain ⟨k, rfl⟩ : ∃ m, k = m + 1 := ⟨k - 1, by omega⟩
    rw [List.length_cons] at hk hl
    rw [sumLen] at hs h1
    have hy := hB y (List.mem_cons_self ..)
    have hm : laws_markIntS.f k y j = some (j + (y.length : Int), marked y.length j) := by
      unfold laws_markIntS.f
      have := markIntS_l0 y.length k 0 y j (by omega) (by omega) (by omega) h0 (by omega)
      simpa using this
    have := ih (p ++ [marked y.length j]) k (j + y.length) (by omega) (by rw [List.length_append]; simp; omega) (by omega) (fun z hz => hB z (List.mem_cons_of_mem _ hz)) (by omega) (by omega)
    simp only [laws_markIntSS.l0]
    rw [if_pos (by rw [List.length_append, List.length_cons]; omega), if_pos (by omega), getD_mid, hm, Option.bind_some, set_mid, wsucc (n := p.length + l.length + 1) (by omega) (by omega)]
    rw [List.length_append, List.length_singleton] at this
    rw [this, markedL, sumLen, List.append_assoc, List.singleton_append]
    congr 2
    omega
theorem heldIntSS_l0 (B : Nat) : ∀ (l p : List (List Int)) (k : Nat) (j : Int), l.length + B < k → p.length + l.length ≤ 1000000000 → sumLen l ≤ 1000000000 → (∀ y ∈ l, y.length ≤ B) → 0 ≤ j → j + sumLen l ≤ 4000000000 →
    laws_heldIntSS.l0 k (p ++ markedL l j) j (p.length : Int) = some (j + sumLen l) := by
  intro l
  induction l with
  | nil =>
    intro p k j hk hl hs hB h0 h1
    obtain ⟨k, rfl⟩ : ∃ m, k = m + 1 := ⟨k - 1, by omega⟩
    simp only [laws_heldIntSS.l0]
    rw [if_neg (by simp [markedL])]
    simp [sumLen]
  | cons y l ih =>
    intro p k j hk hl hs hB h0 h1
    obtain ⟨k, rfl⟩ : ∃ m, k = m + 1 := ⟨k - 1, by omega⟩
    rw [List.length_cons] at hk hl
    rw [sumLen] at hs h1
    have hy := hB y (List.mem_cons_self ..)
    have hm : laws_heldIntS.f k (marked y.length j) j = some (j + (y.length : Int)) := by
      unfold laws_heldIntS.f
      exact heldIntS_l0 [] y.length k [] j (by omega) (by simp; omega) h0 (by omega)
    have := ih (p ++ [marked y.length j]) k (j + y.length) (by omega) (by rw [List.length_append]; simp; omega) (by omega) (fun z hz => hB z (List.mem_cons_of_mem _ hz)) (by omega) (by omega)
    have e : rd_L1 (p ++ markedL (y :: l) j) (p.length : Int) = marked y.length j := getD_mid p _ _
    have hlen : (p ++ markedL (y :: l) j).length = p.length + (markedL l (j + y.length)).length + 1 := by rw [markedL, List.length_append, List.length_cons]; omega
    simp only [laws_heldIntSS.l0]
    rw [e, if_pos (by omega), if_pos (by omega), hm, Option.bind_some, if_neg (by omega), wsucc (n := p.length + l.length + 1) (by omega) (by omega)]
    rw [List.length_append, List.length_singleton, List.append_assoc, List.singleton_append] at this
    rw [markedL, this, sumLen]
    congr 1
    omega
theorem markSS (l : List (List Int)) (hb : l.length ≤ 1048576) (hs : sumLen l ≤ 1048576) : ∀ k, l.length + sumLen l < k → laws_markIntSS.f k l 1 = some (1 + (sumLen l : Int), markedL l 1) ∧ laws_heldIntSS.f k (markedL l 1) 1 = some (1 + (sumLen l : Int)) := by
  intro k hk
  have h1 := markIntSS_l0 (sumLen l) l [] k 1 hk (by simp; omega) (by omega) (fun y hy => sumLen_mem hy) (by omega) (by omega)
  have h2 := heldIntSS_l0 (sumLen l) l [] k 1 hk (by simp; omega) (by omega) (fun y hy => sumLen_mem hy) (by omega) (by omega)
  exact ⟨h1, h2⟩
theorem markSS_m (l : List (List Int)) (hb : l.length ≤ 1048576) (hs : sumLen l ≤ 1048576) : ∀ k, l.length + sumLen l < k → laws_markIntSS.f k l 1 = some (1 + (sumLen l : Int), markedL l 1) := fun k hk =>
  markIntSS_l0 (sumLen l) l [] k 1 hk (by simp; omega) (by omega) (fun y hy => sumLen_mem hy) (by omega) (by omega)

def cvD (x : S56) : S54 := ⟨x.f0, x.f1⟩
theorem rdL_nat {l : List S56} {i : Nat} (h : i < l.length) : rd_T56 l (i : Int) = l[i] := by
  unfold rd_T56
  rw [Int.toNat_natCast, List.getD_eq_getElem?_getD, List.getElem?_eq_getElem h]
  rfl
theorem toDiagonalS_l0 (l : List S56) (hl : l.length ≤ 9223372036854775807) : ∀ (d k i : Nat) (m : List S54), i + d = l.length → d < k → m.length = l.length → m.take i = (l.map cvD).take i →
    laws_toDiagonalS.l0 k l m (i : Int) = some (l.map cvD) := by
  intro d
  induction d with
  | zero =>
    intro k i m hi hk hm ht
    obtain ⟨k, rfl, _⟩ := fuel hk
    simp only [laws_toDiagonalS.l0]
    rw [if_neg (by omega)]
    rw [List.take_of_length_le (by omega), List.take_of_length_le (by rw [List.length_map]; omega)] at ht
    rw [ht]
  | succ d ih =>
    intro k i m hi hk hm ht
    obtain ⟨k, rfl, hk⟩ := fuel hk
    simp only [laws_toDiagonalS.l0, laws_toDiagonal.f]
    rw [if_pos (by omega), if_pos (by omega), Option.bind_some, if_pos (by omega), wsucc (n := l.length) (by omega) hl, Int.toNat_natCast]
    refine ih k (i + 1) _ (by omega) (by omega) (by rw [List.length_set]; exact hm) ?_
    rw [rdL_nat (by omega)]
    rw [List.take_succ_eq_append_getElem (by rw [List.length_set]; omega), List.take_succ_eq_append_getElem (by rw [List.length_map]; omega), List.take_set_of_le (by omega), ht, List.getElem_set_self, List.getElem_map]
    rfl
theorem toDiagonalS_eq {l : List S56} {k : Nat} (hl : l.length ≤ 1048576) (hk : l.length < k) : laws_toDiagonalS.f k l = some (l.map cvD) := by
  unfold laws_toDiagonalS.f
  rw [if_pos (by omega), if_pos (by omega), Int.toNat_natCast]
  exact toDiagonalS_l0 l (by omega) l.length k 0 _ (by omega) hk (by simp) (by simp)
theorem szDiagonalS_eq {l : List S56} (hl : l.length ≤ 9223372036854775807) : laws_szDiagonalS.f l 1048576 = if (l.length : Int) > 1048576 then some (-1) else some (1048576 - (l.length : Int)) := by
  unfold laws_szDiagonalS.f
  rw [w64 (by omega) (by omega)]
  by_cases h : (l.length : Int) > 1048576
  · rw [if_pos h, if_pos (by omega)]
  · rw [if_neg h, if_neg (by omega)]

def markedD : Nat → Int → List S54
  | 0, _ => []
  | n + 1, j => ⟨j, j + 1⟩ :: markedD n (j + 2)
theorem markedD_length : ∀ n j, (markedD n j).length = n
  | 0, _ => rfl
  | n + 1, j => by rw [markedD, List.length_cons, markedD_length n]
theorem markDiagonalS_l0 : ∀ (d k i : Nat) (l : List S54) (j : Int), i + d = l.length → d < k → l.length ≤ 1000000000 → 0 ≤ j → j + 2 * d ≤ 4000000000 →
    laws_markDiagonalS.l0 k l j (i : Int) = some (j + 2 * d, l.take i ++ markedD d j) := by
  intro d
  induction d with
  | zero =>
    intro k i l j hi hk hl hj hb
    obtain ⟨k, rfl, _⟩ := fuel hk
    simp only [laws_markDiagonalS.l0]
    rw [if_neg (by omega), List.take_of_length_le (by omega)]
    simp [markedD]
  | succ d ih =>
    intro k i l j hi hk hl hj hb
    obtain ⟨k, rfl, hk⟩ := fuel hk
    simp only [laws_markDiagonalS.l0]
    rw [if_pos (by omega), if_pos (by omega), Option.bind_some, wsucc (n := l.length) (by omega) (by omega), w64 (x := j + 1) (by omega) (by omega), w64 (x := j + 1 + 1) (by omega) (by omega), Int.toNat_natCast,
      List.set_set, rdT_nat (by rw [List.length_set]; omega), List.getElem_set_self,
      ih k (i + 1) _ (j + 1 + 1) (by rw [List.length_set]; omega) (by omega) (by rw [List.length_set]; omega) (by omega) (by omega)]
    rw [List.take_succ_eq_append_getElem (by rw [List.length_set]; omega), List.getElem_set_self, List.take_set_of_le (by omega), markedD, List.append_assoc, show j + 1 + 1 = j + 2 by omega]
    congr 2
    omega
theorem markDiagonalS_eq {l : List S54} {k : Nat} (hk : l.length < k) (hl : l.length ≤ 1000000000) : laws_markDiagonalS.f k l 1 = some (1 + 2 * (l.length : Int), markedD l.length 1) := by
  unfold laws_markDiagonalS.f
  have := markDiagonalS_l0 l.length k 0 l 1 (by omega) hk hl (by omega) (by omega)
  simpa using this

def hasI (l : List Int) (x : Int) : Bool := l.any fun y => decide (y = x)
def cntI (b : List Int) : List Int → Int
  | [] => 0
  | x :: a => (if hasI b x = true then 1 else 0) + cntI b a
theorem cntI_le (b : List Int) : ∀ a : List Int, 0 ≤ cntI b a ∧ cntI b a ≤ a.length
  | [] => ⟨by simp [cntI], by simp [cntI]⟩
  | x :: a => by
    have := cntI_le b a
    rw [cntI, List.length_cons]
    split <;> omega
theorem l1Has_l0 (l : List Int) (hl : l.length ≤ 1000) (x : Int) : ∀ (d k i : Nat), i + d = l.length → d < k → spec_l1Has.l0 k x l (l.length : Int) (i : Int) = some (hasI (l.drop i) x) := by
  intro d
  induction d with
  | zero =>
    intro k i hi hk
    obtain ⟨k, rfl, _⟩ := fuel hk
    simp only [spec_l1Has.l0]
    rw [if_neg (by omega), List.drop_of_length_le (by omega)]
    rfl
  | succ d ih =>
    intro k i hi hk
    obtain ⟨k, rfl, hk⟩ := fuel hk
    simp only [spec_l1Has.l0]
    rw [if_pos (by omega), if_pos (by omega), if_pos (by omega), wsucc (n := l.length) (by omega) (by omega), ih k (i + 1) (by omega) (by omega), rd_drop (l := l) (i := i) (by omega)]
    unfold hasI
    rw [List.any_cons]
    by_cases h : rd l (i : Int) = x
    · rw [if_pos h, decide_eq_true h, Bool.true_or]
    · rw [if_neg h, decide_eq_false h, Bool.false_or]
theorem indexI_l0 (l : List Int) (hl : l.length ≤ 1000) (x : Int) : ∀ (d k i : Nat), i + d = l.length → d < k → ∃ j : Int, slices_Index_int_int.l0 k l x (l.length : Int) (i : Int) = some j ∧ decide (j ≥ 0) = hasI (l.drop i) x := by
  intro d
  induction d with
  | zero =>
    intro k i hi hk
    obtain ⟨k, rfl, _⟩ := fuel hk
    simp only [slices_Index_int_int.l0]
    rw [if_neg (by omega), List.drop_of_length_le (by omega)]
    exact ⟨-1, rfl, rfl⟩
  | succ d ih =>
    intro k i hi hk
    obtain ⟨k, rfl, hk⟩ := fuel hk
    simp only [slices_Index_int_int.l0]
    rw [if_pos (by omega), if_pos (by omega), if_pos (by omega), wsucc (n := l.length) (by omega) (by omega), rd_drop (l := l) (i := i) (by omega)]
    unfold hasI
    rw [List.any_cons]
    by_cases h : x = rd l (i : Int)
    · rw [if_pos h, decide_eq_true h.symm, Bool.true_or]
      exact ⟨_, rfl, decide_eq_true (by omega)⟩
    · rw [if_neg h, decide_eq_false (fun e => h e.symm), Bool.false_or]
      exact ih k (i + 1) (by omega) (by omega)
theorem containsI_eq (l : List Int) (hl : l.length ≤ 1000) (x : Int) {k : Nat} (hk : l.length < k) : slices_Contains_int_int.f k l x = some (hasI l x) := by
  obtain ⟨j, h1, h2⟩ := indexI_l0 l hl x l.length k 0 (by omega) hk
  rw [Int.natCast_zero] at h1
  unfold slices_Contains_int_int.f slices_Index_int_int.f
  rw [h1, Option.bind_some, h2, List.drop_zero]
theorem l1Has_eq (l : List Int) (hl : l.length ≤ 1000) (x : Int) {k : Nat} (hk : l.length < k) : spec_l1Has.f k l x = some (hasI l x) := by
  have := l1Has_l0 l hl x l.length k 0 (by omega) hk
  unfold spec_l1Has.f
  rw [Int.natCast_zero, List.drop_zero] at this
  exact this
theorem shared_l0 (a b : List Int) (ha : a.length ≤ 3) (hb : b.length ≤ 3) : ∀ (d k i : Nat) (c : Int), i + d = a.length → d + 5 < k → 0 ≤ c → c ≤ i →
    spec_poShared.l0 k b c a (a.length : Int) (i : Int) = some (c + cntI b (a.drop i)) := by
  intro d
  induction d with
  | zero =>
    intro k i c hi hk h0 h1
    obtain ⟨k, rfl⟩ : ∃ m, k = m + 1 := ⟨k - 1, by omega⟩
    simp only [spec_poShared.l0]
    rw [if_neg (by omega), List.drop_of_length_le (by omega), cntI, Int.add_zero]
  | succ d ih =>
    intro k i c hi hk h0 h1
    obtain ⟨k, rfl⟩ : ∃ m, k = m + 1 := ⟨k - 1, by omega⟩
    simp only [spec_poShared.l0]
    rw [if_pos (by omega), if_pos (by omega), if_pos (by omega), l1Has_eq b (by omega) _ (by omega), Option.bind_some, wsucc (n := a.length) (by omega) (by omega), rd_drop (l := a) (i := i) (by omega), cntI]
    cases hasI b (rd a (i : Int)) with
    | true =>
      rw [if_pos rfl, if_pos rfl, w64 (by omega) (by omega), ih k (i + 1) (c + 1) (by omega) (by omega) (by omega) (by omega)]
      congr 1
      omega
    | false =>
      rw [if_neg (by decide), if_neg (by decide), ih k (i + 1) c (by omega) (by omega) (by omega) (by omega)]
      congr 1
      omega
theorem shared_eq (a b : List Int) (ha : a.length ≤ 3) (hb : b.length ≤ 3) {k : Nat} (hk : 10 ≤ k) : spec_poShared.f k a b = some (cntI b a) := by
  have := shared_l0 a b ha hb a.length k 0 0 (by omega) (by omega) (by omega) (by omega)
  unfold spec_poShared.f
  rw [Int.natCast_zero, List.drop_zero, Int.zero_add] at this
  exact this
/-- The triangles beside the one at i, from j on. -/
def besR (X : List (List Int)) (i : Nat) : Nat → Nat → List Int → List Int
  | 0, _, r => r
  | d + 1, j, r => besR X i d (j + 1) (if i ≠ j ∧ cntI (nthL X j) (nthL X i) = 2 then r ++ [(j : Int)] else r)
def besL (X : List (List Int)) : Nat → Nat → List (List Int) → List (List Int)
  | 0, _, Y => Y
  | d + 1, i, Y => besL X d (i + 1) (Y ++ [besR X i X.length 0 []])
theorem besR_len (X : List (List Int)) (i : Nat) : ∀ (d j : Nat) (r : List Int), (besR X i d j r).length ≤ r.length + d
  | 0, _, r => by rw [besR]; omega
  | d + 1, j, r => by
    have := besR_len X i d (j + 1) (if i ≠ j ∧ cntI (nthL X j) (nthL X i) = 2 then r ++ [(j : Int)] else r)
    rw [besR]
    split at this
    · rename_i h
      rw [List.length_append, List.length_singleton] at this
      rw [if_pos h]
      omega
    · rename_i h
      rw [if_neg h]
      omega
theorem besL_len (X : List (List Int)) : ∀ (d i : Nat) (Y : List (List Int)), (besL X d i Y).length = Y.length + d
  | 0, _, Y => by rw [besL]; omega
  | d + 1, i, Y => by rw [besL, besL_len X d, List.length_append, List.length_singleton]; omega
theorem besL_mem (X : List (List Int)) : ∀ (d i : Nat) (Y : List (List Int)), (∀ y ∈ Y, y.length ≤ X.length) → ∀ y ∈ besL X d i Y, y.length ≤ X.length
  | 0, _, Y, h => by rw [besL]; exact h
  | d + 1, i, Y, h => by
    rw [besL]
    refine besL_mem X d (i + 1) _ ?_
    intro y hy
    rcases List.mem_append.1 hy with hy | hy
    · exact h y hy
    · rw [List.mem_singleton] at hy
      rw [hy]
      have := besR_len X i X.length 0 []
      rw [List.length_nil] at this
      omega
set_option linter.unusedSectionVars false
section
variable (X : List (List Int)) (hX : X.length ≤ 2000) (h3 : ∀ y ∈ X, y.length = 3)
include hX h3
theorem sb_l1 (Y : List (List Int)) (hY : Y.length ≤ 3000) (i : Nat) (hi : i < X.length) : ∀ (d k j : Nat) (r : List Int), j + d = X.length → 20 ≤ k → r.length ≤ j →
    spec_TrianglesBeside.l1 (k + d + 1) X Y (i : Int) (nthL X i) r X (X.length : Int) (i : Int) X (X.length : Int) (j : Int) = spec_TrianglesBeside.l0 k X (Y ++ [besR X i d j r]) X (X.length : Int) ((i + 1 : Nat) : Int) := by
  intro d
  induction d with
  | zero =>
    intro k j r hj hk hr
    simp only [spec_TrianglesBeside.l1]
    rw [if_neg (by omega), if_pos (by omega), besR, wsucc (n := X.length) (by omega) (by omega)]
  | succ d ih =>
    intro k j r hj hk hr
    obtain ⟨q, hq⟩ : ∃ q, q = k + d + 1 := ⟨_, rfl⟩
    have g1 := h3 _ (nthL_mem (l := X) (i := i) (by omega))
    have g2 := h3 _ (nthL_mem (l := X) (i := j) (by omega))
    rw [show k + (d + 1) + 1 = q + 1 by omega]
    simp only [spec_TrianglesBeside.l1]
    rw [if_pos (by omega), if_pos (by omega), if_pos (by omega), besR, wsucc (n := X.length) (by omega) (by omega), rdL_nth]
    by_cases h : i = j
    · rw [if_pos (by omega), if_neg (fun e => e.1 h), hq]
      exact ih k (j + 1) r (by omega) hk (by omega)
    · rw [if_neg (by omega), shared_eq _ _ (by omega) (by omega) (by omega), Option.bind_some]
      by_cases h2 : cntI (nthL X j) (nthL X i) = 2
      · rw [if_pos h2, if_pos (by omega), if_pos ⟨h, h2⟩, hq]
        exact ih k (j + 1) _ (by omega) hk (by rw [List.length_append, List.length_singleton]; omega)
      · rw [if_neg h2, if_neg (fun e => h2 e.2), hq]
        exact ih k (j + 1) r (by omega) hk (by omega)
theorem sb_l0 : ∀ (d k i : Nat) (Y : List (List Int)), i + d = X.length → 2100 * d + 2100 ≤ k → Y.length = i →
    spec_TrianglesBeside.l0 k X Y X (X.length : Int) (i : Int) = some (besL X d i Y, true) := by
  intro d
  induction d with
  | zero =>
    intro k i Y hi hk hY
    obtain ⟨k, rfl⟩ : ∃ m, k = m + 1 := ⟨k - 1, by omega⟩
    simp only [spec_TrianglesBeside.l0]
    rw [if_neg (by omega), besL]
  | succ d ih =>
    intro k i Y hi hk hY
    obtain ⟨k, rfl⟩ : ∃ m, k = m + 1 := ⟨k - 1, by omega⟩
    obtain ⟨q, rfl⟩ : ∃ q, k = q + X.length + 1 := ⟨k - X.length - 1, by omega⟩
    simp only [spec_TrianglesBeside.l0]
    rw [if_pos (by omega), if_pos (by omega), if_pos (by omega), rdL_nth]
    have h := sb_l1 X hX h3 Y (by omega) i (by omega) X.length q 0 [] (by omega) (by omega) (by simp)
    rw [Int.natCast_zero] at h
    rw [h, besL]
    exact ih q (i + 1) _ (by omega) (by omega) (by rw [List.length_append, List.length_singleton]; omega)
theorem ib_l2 (Y : List (List Int)) (i j : Nat) (r a b : List Int) (ha : a.length ≤ 3) (hb : b.length ≤ 3) (hr : r.length ≤ 3000) (y z : Int) : ∀ (d k p : Nat) (c : Int), p + d = a.length → 10 ≤ k → 0 ≤ c → c ≤ p →
    impl_TrianglesBeside.l2 (k + d + 1) X Y (i : Int) a r (j : Int) b c X y z X (X.length : Int) (j : Int) a (a.length : Int) (p : Int) =
      impl_TrianglesBeside.l1 k X Y (i : Int) a (if i ≠ j ∧ c + cntI b (a.drop p) = 2 then r ++ [(j : Int)] else r) X y z X (X.length : Int) (wrap64 ((j : Int) + 1)) := by
  intro d
  induction d with
  | zero =>
    intro k p c hp hk h0 h1
    simp only [impl_TrianglesBeside.l2]
    rw [if_neg (by omega), List.drop_of_length_le (by omega), cntI, Int.add_zero]
    by_cases h : i = j
    · rw [if_pos (by omega), if_neg (fun e => e.1 h)]
    · rw [if_neg (by omega)]
      by_cases h2 : c = 2
      · rw [if_pos h2, if_pos (by omega), if_pos ⟨h, h2⟩]
      · rw [if_neg h2, if_neg (fun e => h2 e.2)]
  | succ d ih =>
    intro k p c hp hk h0 h1
    obtain ⟨q, hq⟩ : ∃ q, q = k + d + 1 := ⟨_, rfl⟩
    rw [show k + (d + 1) + 1 = q + 1 by omega]
    simp only [impl_TrianglesBeside.l2]
    rw [if_pos (by omega), if_pos (by omega), if_pos (by omega), containsI_eq b (by omega) _ (by omega), Option.bind_some, wsucc (n := a.length) (by omega) (by omega), rd_drop (l := a) (i := p) (by omega), cntI]
    cases hasI b (rd a (p : Int)) with
    | true =>
      rw [if_pos rfl, if_pos rfl, w64 (by omega) (by omega), hq, ih k (p + 1) (c + 1) (by omega) (by omega) (by omega) (by omega), Int.add_assoc]
    | false =>
      rw [if_neg (show ¬ (false = true) by decide), if_neg (show ¬ (false = true) by decide), hq, ih k (p + 1) c (by omega) (by omega) (by omega) (by omega), Int.zero_add]
theorem ib_l1 (Y : List (List Int)) (hY : Y.length ≤ 3000) (i : Nat) (hi : i < X.length) : ∀ (d k j : Nat) (r : List Int), j + d = X.length → 6 * d + 30 ≤ k → r.length ≤ j →
    ∃ k', k ≤ k' + 6 * d + 1 ∧ impl_TrianglesBeside.l1 k X Y (i : Int) (nthL X i) r X (X.length : Int) (i : Int) X (X.length : Int) (j : Int) = impl_TrianglesBeside.l0 k' X (Y ++ [besR X i d j r]) X (X.length : Int) ((i + 1 : Nat) : Int) := by
  intro d
  induction d with
  | zero =>
    intro k j r hj hk hr
    obtain ⟨k, rfl⟩ : ∃ m, k = m + 1 := ⟨k - 1, by omega⟩
    refine ⟨k, by omega, ?_⟩
    simp only [impl_TrianglesBeside.l1]
    rw [if_neg (by omega), if_pos (by omega), besR, wsucc (n := X.length) (by omega) (by omega)]
  | succ d ih =>
    intro k j r hj hk hr
    have g1 := h3 _ (nthL_mem (l := X) (i := i) (by omega))
    have g2 := h3 _ (nthL_mem (l := X) (i := j) (by omega))
    obtain ⟨q, hq⟩ : ∃ q, k = (q + (nthL X i).length + 1) + 1 := ⟨k - 5, by omega⟩
    obtain ⟨k', h4, h5⟩ := ih q (j + 1) (if i ≠ j ∧ cntI (nthL X j) (nthL X i) = 2 then r ++ [(j : Int)] else r) (by omega) (by omega) (by split; rw [List.length_append, List.length_singleton]; omega; omega)
    refine ⟨k', by omega, ?_⟩
    have h := ib_l2 X hX h3 Y i j r (nthL X i) (nthL X j) (by omega) (by omega) (by omega) (X.length : Int) (i : Int) (nthL X i).length q 0 0 (by omega) (by omega) (by omega) (by omega)
    rw [Int.natCast_zero, List.drop_zero, Int.zero_add, wsucc (n := X.length) (by omega) (by omega)] at h
    rw [hq]
    simp only [impl_TrianglesBeside.l1]
    rw [if_pos (by omega), if_pos (by omega), if_pos (by omega), rdL_nth, h, besR]
    exact h5
theorem ib_l0 : ∀ (d k i : Nat) (Y : List (List Int)), i + d = X.length → 13000 * d + 13000 ≤ k → Y.length = i →
    impl_TrianglesBeside.l0 k X Y X (X.length : Int) (i : Int) = some (besL X d i Y, true) := by
  intro d
  induction d with
  | zero =>
    intro k i Y hi hk hY
    obtain ⟨k, rfl⟩ : ∃ m, k = m + 1 := ⟨k - 1, by omega⟩
    simp only [impl_TrianglesBeside.l0]
    rw [if_neg (by omega), besL]
  | succ d ih =>
    intro k i Y hi hk hY
    obtain ⟨k, rfl⟩ : ∃ m, k = m + 1 := ⟨k - 1, by omega⟩
    obtain ⟨q, h1, h2⟩ := ib_l1 X hX h3 Y (by omega) i (by omega) X.length k 0 [] (by omega) (by omega) (by simp)
    rw [Int.natCast_zero] at h2
    simp only [impl_TrianglesBeside.l0]
    rw [if_pos (by omega), if_pos (by omega), if_pos (by omega), rdL_nth, h2, besL]
    exact ih q (i + 1) _ (by omega) (by omega) (by rw [List.length_append, List.length_singleton]; omega)
end
theorem FnExactTrianglesBeside : laws_FnExactTrianglesBeside.Pure := by
  intro n l _ hl _
  refine ⟨l.length + 30000000, ?_⟩
  unfold laws_FnExactTrianglesBeside.f
  rw [szDiagonalS_eq hl]
  by_cases h : (l.length : Int) > 1048576
  · rw [if_pos h]
    exact ⟨-1, rfl, Or.inl (by omega)⟩
  · rw [if_neg h]
    refine ⟨_, rfl, Or.inr ⟨by omega, ?_⟩⟩
    have hm : (l.map cvD).length = l.length := List.length_map ..
    obtain ⟨q, b, hq1, hq2, hS, hI⟩ : ∃ q b, q.length ≤ 2000 ∧ (∀ y ∈ q, y.length ≤ 2000) ∧ spec_TrianglesBeside.f (l.length + 30000000) n (l.map cvD) = some (q, b) ∧ impl_TrianglesBeside.f (l.length + 30000000) n (l.map cvD) = some (q, b) := by
      unfold spec_TrianglesBeside.f impl_TrianglesBeside.f
      rw [poGood_eq _ _ (by omega), implTri_eq _ _ (by omega) (by omega), Option.bind_some, Option.bind_some]
      cases hg : Good n (l.map cvD) with
      | false => exact ⟨[], false, by simp, fun y hy => absurd hy List.not_mem_nil, rfl, rfl⟩
      | true =>
        have hg2 := (good_iff n (l.map cvD)).1 hg
        have h3 : (trisOf n (l.map cvD)).length ≤ 1728 := trisOf_len n (by omega) _
        have h4 := trisOf_mem n (l.map cvD)
        rw [if_pos rfl, if_pos rfl, specTris_eq (by omega) (by omega) (by omega), implTris_eq (by omega) (by omega) (by omega), Option.bind_some, Option.bind_some]
        generalize trisOf n (l.map cvD) = X at h3 h4
        have h5 := besL_len X X.length 0 []
        have h6 := besL_mem X X.length 0 [] (fun y hy => absurd hy List.not_mem_nil)
        rw [List.length_nil] at h5
        refine ⟨besL X X.length 0 [], true, by omega, fun y hy => by have := h6 y hy; omega, ?_, ?_⟩
        · exact sb_l0 X (by omega) h4 X.length _ 0 [] (by omega) (by omega) rfl
        · exact ib_l0 X (by omega) h4 X.length _ 0 [] (by omega) (by omega) rfl
    have hs := sumLen_const (c := 2000) (X := q) hq2
    have hs2 : 2000 * q.length ≤ 4000000 := by omega
    have hm1 := markIntSS_l0 2000 q [] (l.length + 30000000) 1 (by omega) (by simp; omega) (by omega) hq2 (by omega) (by omega)
    have hm2 := heldIntSS_l0 2000 q [] (l.length + 30000000) 1 (by omega) (by simp; omega) (by omega) hq2 (by omega) (by omega)
    have hm3 : laws_markIntSS.f (l.length + 30000000) q 1 = some (1 + (sumLen q : Int), markedL q 1) := hm1
    have hm4 : laws_heldIntSS.f (l.length + 30000000) (markedL q 1) 1 = some (1 + (sumLen q : Int)) := hm2
    have he : laws_eqIntSS.f (l.length + 30000000) q q = some true := by
      unfold laws_eqIntSS.f
      rw [if_pos rfl, ← Int.natCast_zero]
      exact eqIntSS_l0 q (by omega) (fun y hy => by have := hq2 y hy; omega) 2000 hq2 q.length _ 0 (by omega) (by omega)
    exact ⟨l.map cvD, q, b, _, _, _, _, toDiagonalS_eq (by omega) (by omega), hS, hI, he, eqDiagonalS_self (by omega) (by omega), markDiagonalS_eq (by omega) (by omega), by omega, hm3, hm4, by omega⟩

end Go.Proofs.Ytmpmmhmnjdkgcab.Pure
