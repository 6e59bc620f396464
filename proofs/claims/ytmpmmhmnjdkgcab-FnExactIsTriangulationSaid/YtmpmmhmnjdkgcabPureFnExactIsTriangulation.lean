/- The plain statement of FnExactIsTriangulation, over numbers and lists: the program's answer is the reference's. -/
import Derived.Test.YtmpmmhmnjdkgcabPFnExactIsTriangulationx
set_option linter.unusedVariables false
set_option linter.unusedSimpArgs false
namespace Go.Proofs.Ytmpmmhmnjdkgcab.Pure
open Go.RowKit Go.Proofs.Ytmpmmhmnjdkgcab.PFnExactIsTriangulation Go.Proofs.YtmpmmhmnjdkgcabW.PrintWords Go.Proofs.YtmpmmhmnjdkgcabW.PrintLast

theorem w64 {x : Int} (h0 : -9223372036854775808 ≤ x) (h1 : x ≤ 9223372036854775807) : wrap64 x = x := by
  unfold wrap64
  omega
theorem wf_i64 {x : Int} (h : (Lit.int .i64 x).wf = true) : -9223372036854775808 ≤ x ∧ x ≤ 9223372036854775807 := by
  simp [Lit.wf, IntKind.min, IntKind.max, IntKind.signed, IntKind.bits] at h
  omega

theorem within_eq (a b c : Int) : impl_within.f a b c = some (decide (b ≤ a ∧ a ≤ c)) := by
  unfold impl_within.f
  split <;> simp <;> omega

theorem l1In_eq (a b c : Int) : spec_l1In.f a b c = some (decide (b ≤ a ∧ a ≤ c)) := by
  unfold spec_l1In.f
  split <;> simp <;> omega

theorem some_f {p : Prop} [Decidable p] (h : ¬ p) : some false = some (decide p) := by rw [decide_eq_false h]
theorem some_t {p : Prop} [Decidable p] (h : p) : some true = some (decide p) := by rw [decide_eq_true h]
theorem some_d {p q : Prop} [Decidable p] [Decidable q] (h : p ↔ q) : some (decide p) = some (decide q) := by rw [decide_eq_decide.2 h]
theorem some_b {b : Bool} {p : Prop} [Decidable p] (h : b = true ↔ p) : some b = some (decide p) := by
  congr 1
  rw [Bool.eq_iff_iff, h, decide_eq_true_iff]

def IsDiag (n a b : Int) : Prop := 3 ≤ n ∧ n ≤ 12 ∧ 0 ≤ a ∧ b ≤ n - 1 ∧ 2 ≤ b - a ∧ b - a ≤ n - 2
instance (n a b : Int) : Decidable (IsDiag n a b) := by unfold IsDiag; infer_instance
theorem poIs_eq (n : Int) : spec_poIs.f n = some (decide (3 ≤ n ∧ n ≤ 12)) := by
  unfold spec_poIs.f
  simp only [l1In_eq, Option.bind_some]
theorem isPolygon_eq (n : Int) : impl_isPolygon.f n = some (decide (3 ≤ n ∧ n ≤ 12)) := by
  unfold impl_isPolygon.f
  simp only [within_eq, Option.bind_some]
theorem poDiagonal_eq (n a b : Int) : spec_poDiagonal.f n a b = some (decide (IsDiag n a b)) := by
  unfold spec_poDiagonal.f
  simp only [poIs_eq, l1In_eq, Option.bind_some, decide_eq_true_eq]
  by_cases hn : 3 ≤ n ∧ n ≤ 12
  · rw [if_pos hn, w64 (x := n - 1) (by omega) (by omega), w64 (x := n - 2) (by omega) (by omega)]
    by_cases ha : 0 ≤ a ∧ a ≤ n - 1
    · rw [if_pos ha]
      by_cases hb : 0 ≤ b ∧ b ≤ n - 1
      · rw [if_pos hb, w64 (x := b - a) (by omega) (by omega)]
        by_cases hc : b - a ≥ 2
        · rw [if_pos hc]; exact some_d (by unfold IsDiag; omega)
        · rw [if_neg hc]; exact some_f (by unfold IsDiag; omega)
      · rw [if_neg hb]; exact some_f (by unfold IsDiag; omega)
    · rw [if_neg ha]; exact some_f (by unfold IsDiag; omega)
  · rw [if_neg hn]; exact some_f (by unfold IsDiag; omega)
theorem isDiagonal_eq {n : Int} (hn : 3 ≤ n ∧ n ≤ 12) (a b : Int) : impl_isDiagonal.f n a b = some (decide (IsDiag n a b)) := by
  unfold impl_isDiagonal.f
  simp only [within_eq, Option.bind_some, decide_eq_true_eq]
  rw [w64 (x := n - 1) (by omega) (by omega)]
  by_cases ha : 0 ≤ a ∧ a ≤ n - 1
  · rw [if_pos ha]
    by_cases hb : 0 ≤ b ∧ b ≤ n - 1
    · rw [if_pos hb, w64 (x := b - a) (by omega) (by omega)]
      by_cases hc : b - a > 1
      · rw [if_pos hc]
        by_cases h0 : a = 0
        · rw [if_pos h0]; exact some_b (by unfold IsDiag; simp; omega)
        · rw [if_neg h0]; exact some_b (by unfold IsDiag; simp; omega)
      · rw [if_neg hc]; exact some_f (by unfold IsDiag; omega)
    · rw [if_neg hb]; exact some_f (by unfold IsDiag; omega)
  · rw [if_neg ha]; exact some_f (by unfold IsDiag; omega)

def Cross (a b c d : Int) : Prop := (a < c ∧ c < b ∧ b < d) ∨ (c < a ∧ a < d ∧ d < b)
instance (a b c d : Int) : Decidable (Cross a b c d) := by unfold Cross; infer_instance
theorem poCross_eq (a b c d : Int) : spec_poCross.f a b c d = some (decide (Cross a b c d)) := by
  unfold spec_poCross.f Cross
  (repeat' split) <;> first | exact some_t (by omega) | exact some_f (by omega) | exact some_d (by omega)
theorem doCross_eq (a b c d : Int) : impl_doCross.f a b c d = some (decide (Cross a b c d)) := by
  unfold impl_doCross.f Cross
  (repeat' split) <;> first | exact some_t (by omega) | exact some_f (by omega) | exact some_d (by omega)

theorem rd_nat {l : List Int} {i : Nat} (h : i < l.length) : rd l (i : Int) = l[i] := by
  unfold rd
  rw [Int.toNat_natCast, List.getD_eq_getElem?_getD, List.getElem?_eq_getElem h]
  rfl
theorem rd_drop {l : List Int} {i : Nat} (h : i < l.length) : l.drop i = rd l (i : Int) :: l.drop (i + 1) := by
  rw [rd_nat h, ← List.drop_eq_getElem_cons h]
theorem wsucc {i n : Nat} (h : i < n) (hn : n ≤ 9223372036854775807) : wrap64 ((i : Int) + 1) = ((i + 1 : Nat) : Int) := by
  rw [w64 (by omega) (by omega)]
  omega
theorem ite_t {α : Sort _} {a b : α} : (if true = true then a else b) = a := if_pos rfl
theorem ite_f {α : Sort _} {a b : α} : (if false = true then a else b) = b := if_neg (by decide)
theorem fuel {k d : Nat} (h : d < k) : ∃ m, k = m + 1 ∧ d ≤ m := ⟨k - 1, by omega, by omega⟩

theorem rdT_nat {l : List S54} {i : Nat} (h : i < l.length) : rd_T54 l (i : Int) = l[i] := by
  unfold rd_T54
  rw [Int.toNat_natCast, List.getD_eq_getElem?_getD, List.getElem?_eq_getElem h]
  rfl
theorem rdT_drop {l : List S54} {i : Nat} (h : i < l.length) : l.drop i = rd_T54 l (i : Int) :: l.drop (i + 1) := by
  rw [rdT_nat h, ← List.drop_eq_getElem_cons h]
theorem eqDiagonal_self (a b : Int) : laws_eqDiagonal.f a b a b = some true := by
  unfold laws_eqDiagonal.f
  rw [if_pos rfl, if_pos rfl]
theorem eqDiagonalS_l0 (l : List S54) (hl : l.length ≤ 9223372036854775807) : ∀ (d k i : Nat), i + d = l.length → d < k → laws_eqDiagonalS.l0 k l l (i : Int) = some true := by
  intro d
  induction d with
  | zero =>
    intro k i hi hk
    obtain ⟨k, rfl, _⟩ := fuel hk
    simp only [laws_eqDiagonalS.l0]
    rw [if_neg (by omega)]
  | succ d ih =>
    intro k i hi hk
    obtain ⟨k, rfl, hk⟩ := fuel hk
    simp only [laws_eqDiagonalS.l0]
    rw [if_pos (by omega), if_pos (by omega), if_pos (by omega), eqDiagonal_self, Option.bind_some, if_pos rfl, wsucc (n := l.length) (by omega) hl]
    exact ih k (i + 1) (by omega) (by omega)
theorem eqDiagonalS_self {l : List S54} {k : Nat} (hl : l.length ≤ 9223372036854775807) (hk : l.length < k) : laws_eqDiagonalS.f k l l = some true := by
  unfold laws_eqDiagonalS.f
  rw [if_pos rfl]
  exact eqDiagonalS_l0 l hl l.length k 0 (by omega) hk

def lessD (a b c d : Int) : Bool := decide (a < c ∨ (a = c ∧ b < d))
def okAt (n : Int) (l : List S54) (i : Nat) : Bool :=
  decide (IsDiag n (rd_T54 l i).f0 (rd_T54 l i).f1) && (decide (i = 0) || lessD (rd_T54 l ((i : Int) - 1)).f0 (rd_T54 l ((i : Int) - 1)).f1 (rd_T54 l i).f0 (rd_T54 l i).f1) &&
    !((l.take i).any fun e => decide (Cross (rd_T54 l i).f0 (rd_T54 l i).f1 e.f0 e.f1))
def goodFrom (n : Int) (l : List S54) : Nat → Nat → Bool
  | 0, _ => true
  | d + 1, i => okAt n l i && goodFrom n l d (i + 1)
/-- What both programs take a list to be: a triangulation of the polygon. -/
def Good (n : Int) (l : List S54) : Bool := decide (3 ≤ n ∧ n ≤ 12) && (decide ((l.length : Int) = n - 3) && goodFrom n l l.length 0)
theorem cmpInt_eq (a b : Int) : cmp_Compare_int.f a b = some (if a < b then -1 else if a > b then 1 else 0) := by
  unfold cmp_Compare_int.f cmp_isNaN_int.f
  simp only [Option.bind_some, bne_self_eq_false, Bool.false_eq_true, if_false]
  split
  · rfl
  · split <;> rfl
theorem cmpD_eq {k : Nat} (hk : 4 ≤ k) (a b c d : Int) : ∃ r, impl_compareDiagonals.f k a b c d = some r ∧ (decide (r ≥ 0) = !(lessD a b c d)) ∧ (r < 0 ↔ lessD a b c d = true) ∧ (r = 0 ↔ a = c ∧ b = d) := by
  obtain ⟨k, rfl⟩ : ∃ m, k = m + 4 := ⟨k - 4, by omega⟩
  unfold impl_compareDiagonals.f
  rw [cmpInt_eq, cmpInt_eq, Option.bind_some, Option.bind_some]
  have h0 : ∀ x y : Int, rd [x, y] 0 = x := fun _ _ => rfl
  have h1 : ∀ x y : Int, rd [x, y] 1 = y := fun _ _ => rfl
  have hor : ∀ x y : Int, cmp_Or_int.f (k + 4) [x, y] = some (if x = 0 then y else x) := by
    intro x y
    unfold cmp_Or_int.f
    have w1 : wrap64 (0 + 1) = 1 := w64 (by omega) (by omega)
    have w2 : wrap64 (1 + 1) = 2 := w64 (by omega) (by omega)
    have n2 : ((([x, y] : List Int).length : Nat) : Int) = 2 := rfl
    rw [n2]
    simp only [cmp_Or_int.l0, n2, h0, h1, w1, w2]
    by_cases hx : x = 0
    · by_cases hy : y = 0
      · simp [hx, hy]
      · simp [hx, hy]
    · simp [hx]
  rw [hor, Option.bind_some]
  refine ⟨_, rfl, ?_⟩
  unfold lessD
  by_cases h1 : a < c
  · simp [h1]; omega
  · by_cases h2 : a > c
    · simp [h1, h2]; omega
    · obtain rfl : a = c := by omega
      by_cases h3 : b < d
      · simp [h3]; omega
      · by_cases h4 : b > d
        · simp [h3, h4]; omega
        · simp [h3, h4]; omega
theorem wpred {i n : Nat} (h0 : 0 < i) (h : i < n) (hn : n ≤ 9223372036854775807) : wrap64 ((i : Int) - 1) = (i : Int) - 1 := by
  rw [w64 (by omega) (by omega)]
theorem any_cross (a b : Int) (l : List S54) (hl : l.length ≤ 1048576) : impl_Diagonal__at_impl_IsTriangulation_1.f l a b = some (l.any fun e => decide (Cross a b e.f0 e.f1)) := by
  unfold impl_Diagonal__at_impl_IsTriangulation_1.f
  rw [if_pos hl]
  congr 2
  funext e
  rw [Bool.eq_iff_iff, decide_eq_true_iff]
  unfold impl_Diagonal__at_impl_IsTriangulation_1.x Cross
  simp only [Bool.or_eq_true, Bool.and_eq_true, decide_eq_true_eq]
  omega
theorem implTri_l0 (n : Int) (hn : 3 ≤ n ∧ n ≤ 12) (l : List S54) (hl : l.length ≤ 1048576) : ∀ (d k i : Nat), i + d = l.length → d + 5 < k → impl_IsTriangulation.l0 k n l l (l.length : Int) (i : Int) = some (goodFrom n l d i) := by
  intro d
  induction d with
  | zero =>
    intro k i hi hk
    obtain ⟨k, rfl, _⟩ := fuel hk
    simp only [impl_IsTriangulation.l0, goodFrom]
    rw [if_neg (by omega)]
  | succ d ih =>
    intro k i hi hk
    obtain ⟨k, rfl, hk⟩ := fuel hk
    simp only [impl_IsTriangulation.l0, goodFrom, okAt]
    rw [if_pos (by omega), if_pos (by omega), if_pos (by omega), isDiagonal_eq hn, Option.bind_some]
    by_cases h1 : IsDiag n (rd_T54 l i).f0 (rd_T54 l i).f1
    · rw [decide_eq_true h1, ite_t]
      by_cases h2 : (i : Int) > 0
      · rw [if_pos h2, wpred (n := l.length) (by omega) (by omega) (by omega), if_pos (by omega), if_pos (by omega)]
        obtain ⟨r, hr, hr1, hr2, _⟩ := cmpD_eq (k := k) (by omega) (rd_T54 l ((i : Int) - 1)).f0 (rd_T54 l ((i : Int) - 1)).f1 (rd_T54 l i).f0 (rd_T54 l i).f1
        rw [hr, Option.bind_some]
        by_cases h3 : r ≥ 0
        · rw [if_pos h3]
          have : lessD (rd_T54 l ((i : Int) - 1)).f0 (rd_T54 l ((i : Int) - 1)).f1 (rd_T54 l i).f0 (rd_T54 l i).f1 = false := by
            rw [decide_eq_true h3] at hr1
            simpa using hr1.symm
          simp [this]
          omega
        · rw [if_neg h3, if_pos (by omega), any_cross _ _ _ (by rw [List.length_take]; omega), Option.bind_some, hr2.1 (by omega), Int.toNat_natCast, wsucc (n := l.length) (by omega) (by omega), ih k (i + 1) (by omega) (by omega)]
          cases h4 : (l.take i).any fun e => decide (Cross (rd_T54 l i).f0 (rd_T54 l i).f1 e.f0 e.f1) <;> simp
      · rw [if_neg h2, if_pos (by omega), any_cross _ _ _ (by rw [List.length_take]; omega), Option.bind_some, Int.toNat_natCast, wsucc (n := l.length) (by omega) (by omega), ih k (i + 1) (by omega) (by omega)]
        have h3 : i = 0 := by omega
        subst h3
        cases h4 : (l.take 0).any fun e => decide (Cross (rd_T54 l ((0 : Nat) : Int)).f0 (rd_T54 l ((0 : Nat) : Int)).f1 e.f0 e.f1) <;> simp
    · rw [decide_eq_false h1, ite_f]
      simp
theorem implTri_eq (n : Int) (l : List S54) {k : Nat} (hl : l.length ≤ 1048576) (hk : 20 ≤ k) : impl_IsTriangulation.f k n l = some (Good n l) := by
  unfold impl_IsTriangulation.f Good
  obtain ⟨k, rfl⟩ : ∃ m, k = m + 1 := ⟨k - 1, by omega⟩
  rw [isPolygon_eq, Option.bind_some]
  by_cases hn : 3 ≤ n ∧ n ≤ 12
  · rw [decide_eq_true hn, ite_t, w64 (x := n - 3) (by omega) (by omega)]
    simp only [impl_IsTriangulation.j0]
    by_cases h : (l.length : Int) = n - 3
    · rw [bne_eq_false_iff_eq.2 h, ite_f, decide_eq_true h, ← Int.natCast_zero, implTri_l0 n hn l hl l.length k 0 (by omega) (by omega)]
      rfl
    · rw [bne_iff_ne.2 h, ite_t, decide_eq_false h]
      rfl
  · rw [decide_eq_false hn, ite_f]
    simp only [impl_IsTriangulation.j0]
    rfl
theorem poLess_eq (a b c d : Int) : spec_poLess.f a b c d = some (lessD a b c d) := by
  unfold spec_poLess.f lessD
  (repeat' split) <;> first | exact some_t (by omega) | exact some_f (by omega) | exact some_d (by omega)
theorem poGood_l1 (n : Int) (l y : List S54) (L x a b : Int) (hy : y.length ≤ 1048576) : ∀ (d k q : Nat), q + d = y.length →
    spec_poGood.l1 (k + d + 1) n l l L x y (y.length : Int) (q : Int) a b = if (y.drop q).any (fun e => decide (Cross a b e.f0 e.f1)) = true then some false else spec_poGood.l0 k n l l L (wrap64 (x + 1)) := by
  intro d
  induction d with
  | zero =>
    intro k q hq
    simp only [spec_poGood.l1]
    rw [if_neg (by omega), List.drop_of_length_le (by omega)]
    simp
  | succ d ih =>
    intro k q hq
    obtain ⟨m, hm⟩ : ∃ m, m = k + d + 1 := ⟨_, rfl⟩
    rw [show k + (d + 1) + 1 = m + 1 by omega]
    simp only [spec_poGood.l1]
    rw [hm]
    rw [if_pos (by omega), if_pos (by omega), if_pos (by omega), poCross_eq, Option.bind_some, wsucc (n := y.length) (by omega) (by omega), ih k (q + 1) (by omega), rdT_drop (l := y) (i := q) (by omega), List.any_cons]
    by_cases h : Cross a b (rd_T54 y q).f0 (rd_T54 y q).f1
    · rw [decide_eq_true h, ite_t, Bool.true_or, if_pos rfl]
    · rw [decide_eq_false h, ite_f, Bool.false_or]
theorem poGood_j2 (n : Int) (l : List S54) (hl : l.length ≤ 9) (i : Nat) (hi : i < l.length) (a b : Int) (c : Bool) (r : Bool) {k : Nat} (hk : 12 ≤ k)
    (h : ∀ m, k - 12 ≤ m → spec_poGood.l0 m n l l (l.length : Int) ((i + 1 : Nat) : Int) = some r) :
    spec_poGood.j2 k n l (i : Int) l (l.length : Int) (i : Int) c a b = some (!c && (!((l.take i).any fun e => decide (Cross a b e.f0 e.f1)) && r)) := by
  obtain ⟨k, rfl⟩ : ∃ m, k = m + 1 := ⟨k - 1, by omega⟩
  simp only [spec_poGood.j2]
  cases c with
  | true => simp
  | false =>
    have hlen : (l.take i).length = i := by rw [List.length_take]; omega
    obtain ⟨m, hm⟩ : ∃ m, k = m + (l.take i).length + 1 := ⟨k - i - 1, by omega⟩
    rw [ite_f, if_pos (by omega), if_pos (by omega), Option.bind_some, Int.toNat_natCast]
    have h1 := poGood_l1 n l (l.take i) (l.length : Int) (i : Int) a b (by omega) (l.take i).length m 0 (by omega)
    rw [← hm, Int.natCast_zero, wsucc (n := l.length) hi (by omega), List.drop_zero] at h1
    rw [h1, h m (by omega)]
    cases h4 : (l.take i).any fun e => decide (Cross a b e.f0 e.f1) <;> simp
theorem poGood_l0 (n : Int) (hn : 3 ≤ n ∧ n ≤ 12) (l : List S54) (hl : l.length ≤ 9) : ∀ (d k i : Nat), i + d = l.length → 14 * d + 1 ≤ k → spec_poGood.l0 k n l l (l.length : Int) (i : Int) = some (goodFrom n l d i) := by
  intro d
  induction d with
  | zero =>
    intro k i hi hk
    obtain ⟨k, rfl, _⟩ := fuel (show 0 < k by omega)
    simp only [spec_poGood.l0, goodFrom]
    rw [if_neg (by omega)]
  | succ d ih =>
    intro k i hi hk
    obtain ⟨k, rfl⟩ : ∃ m, k = m + 1 := ⟨k - 1, by omega⟩
    have hj := fun (a b : Int) (c : Bool) => poGood_j2 n l hl i (by omega) a b c (goodFrom n l d (i + 1)) (k := k) (by omega) (fun m hm => ih m (i + 1) (by omega) (by omega))
    simp only [spec_poGood.l0, goodFrom, okAt]
    rw [if_pos (by omega), if_pos (by omega), if_pos (by omega), poDiagonal_eq, Option.bind_some]
    by_cases h1 : IsDiag n (rd_T54 l i).f0 (rd_T54 l i).f1
    · rw [decide_eq_true h1, ite_t]
      by_cases h2 : (i : Int) > 0
      · rw [if_pos h2, wpred (n := l.length) (by omega) (by omega) (by omega), if_pos (by omega), if_pos (by omega), poLess_eq, Option.bind_some, hj, decide_eq_false (show ¬ i = 0 by omega)]
        cases lessD (rd_T54 l ((i : Int) - 1)).f0 (rd_T54 l ((i : Int) - 1)).f1 (rd_T54 l i).f0 (rd_T54 l i).f1 <;> simp
      · rw [if_neg h2, hj, decide_eq_true (show i = 0 by omega)]
        simp
    · rw [decide_eq_false h1, ite_f, hj]
      simp
theorem poGood_eq (n : Int) (l : List S54) {k : Nat} (hk : 200 ≤ k) : spec_poGood.f k n l = some (Good n l) := by
  unfold spec_poGood.f Good
  obtain ⟨k, rfl⟩ : ∃ m, k = m + 1 := ⟨k - 1, by omega⟩
  rw [poIs_eq, Option.bind_some]
  by_cases hn : 3 ≤ n ∧ n ≤ 12
  · rw [decide_eq_true hn, ite_t, w64 (x := n - 3) (by omega) (by omega)]
    simp only [spec_poGood.j0]
    by_cases h : (l.length : Int) = n - 3
    · rw [bne_eq_false_iff_eq.2 h, ite_f, decide_eq_true h, ← Int.natCast_zero, poGood_l0 n hn l (by omega) l.length k 0 (by omega) (by omega)]
      rfl
    · rw [bne_iff_ne.2 h, ite_t, decide_eq_false h]
      rfl
  · rw [decide_eq_false hn, ite_f]
    simp only [spec_poGood.j0]
    rfl

def cvD (x : S56) : S54 := ⟨x.f0, x.f1⟩
theorem rdL_nat {l : List S56} {i : Nat} (h : i < l.length) : rd_T56 l (i : Int) = l[i] := by
  unfold rd_T56
  rw [Int.toNat_natCast, List.getD_eq_getElem?_getD, List.getElem?_eq_getElem h]
  rfl
theorem toDiagonalS_l0 (l : List S56) (hl : l.length ≤ 9223372036854775807) : ∀ (d k i : Nat) (m : List S54), i + d = l.length → d < k → m.length = l.length → m.take i = (l.map cvD).take i →
    laws_toDiagonalS.l0 k l m (i : Int) = some (l.map cvD) := by
  intro d
  induction d with
  | zero =>
    intro k i m hi hk hm ht
    obtain ⟨k, rfl, _⟩ := fuel hk
    simp only [laws_toDiagonalS.l0]
    rw [if_neg (by omega)]
    rw [List.take_of_length_le (by omega), List.take_of_length_le (by rw [List.length_map]; omega)] at ht
    rw [ht]
  | succ d ih =>
    intro k i m hi hk hm ht
    obtain ⟨k, rfl, hk⟩ := fuel hk
    simp only [laws_toDiagonalS.l0, laws_toDiagonal.f]
    rw [if_pos (by omega), if_pos (by omega), Option.bind_some, if_pos (by omega), wsucc (n := l.length) (by omega) hl, Int.toNat_natCast]
    refine ih k (i + 1) _ (by omega) (by omega) (by rw [List.length_set]; exact hm) ?_
    rw [rdL_nat (by omega)]
    rw [List.take_succ_eq_append_getElem (by rw [List.length_set]; omega), List.take_succ_eq_append_getElem (by rw [List.length_map]; omega), List.take_set_of_le (by omega), ht, List.getElem_set_self, List.getElem_map]
    rfl
theorem toDiagonalS_eq {l : List S56} {k : Nat} (hl : l.length ≤ 1048576) (hk : l.length < k) : laws_toDiagonalS.f k l = some (l.map cvD) := by
  unfold laws_toDiagonalS.f
  rw [if_pos (by omega), if_pos (by omega), Int.toNat_natCast]
  exact toDiagonalS_l0 l (by omega) l.length k 0 _ (by omega) hk (by simp) (by simp)
theorem szDiagonalS_eq {l : List S56} (hl : l.length ≤ 9223372036854775807) : laws_szDiagonalS.f l 1048576 = if (l.length : Int) > 1048576 then some (-1) else some (1048576 - (l.length : Int)) := by
  unfold laws_szDiagonalS.f
  rw [w64 (by omega) (by omega)]
  by_cases h : (l.length : Int) > 1048576
  · rw [if_pos h, if_pos (by omega)]
  · rw [if_neg h, if_neg (by omega)]

theorem FnExactIsTriangulation : laws_FnExactIsTriangulation.Pure := by
  intro n l _ hl _
  refine ⟨l.length + 300, ?_⟩
  unfold laws_FnExactIsTriangulation.f
  rw [szDiagonalS_eq hl]
  by_cases h : (l.length : Int) > 1048576
  · rw [if_pos h, Option.bind_some, if_pos (by omega)]
  · rw [if_neg h, Option.bind_some, if_neg (by omega)]
    have hT : laws_toDiagonalS.f (l.length + 300) l = some (l.map cvD) := toDiagonalS_eq (by omega) (by omega)
    have hS : spec_IsTriangulation.f (l.length + 300) n (l.map cvD) = some (Good n (l.map cvD)) := by
      unfold spec_IsTriangulation.f
      rw [poGood_eq _ _ (by omega), Option.bind_some]
    have hI : impl_IsTriangulation.f (l.length + 300) n (l.map cvD) = some (Good n (l.map cvD)) := implTri_eq _ _ (by rw [List.length_map]; omega) (by omega)
    have hE : laws_eqDiagonalS.f (l.length + 300) (l.map cvD) (l.map cvD) = some true := eqDiagonalS_self (by rw [List.length_map]; omega) (by rw [List.length_map]; omega)
    repeat (first | dsimp only | rw [Option.bind_some] | rw [if_pos rfl] | rw [bne_self_eq_false] | rw [if_neg Bool.false_ne_true] | rw [hT] | rw [hS] | rw [hI] | rw [hE])

end Go.Proofs.Ytmpmmhmnjdkgcab.Pure
