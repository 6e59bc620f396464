/- What the law FnQuidditiesTell draws, and how a look through all triangulations of up to nine corners tells it. -/
import Derived.Test.YtobddjeefcoikaaGreatPFnQuidditiesTellx
set_option linter.unusedVariables false
set_option linter.unusedSimpArgs false
namespace Go.Proofs.YtobddjeefcoikaaGreat.Pure
open Go.RowKit Go.Proofs.YtobddjeefcoikaaGreat.PFnQuidditiesTell Go.Proofs.YtobddjeefcoikaaGreatW.PrintWords Go.Proofs.YtobddjeefcoikaaGreatW.PrintLast

theorem w64 {x : Int} (h0 : -9223372036854775808 ≤ x) (h1 : x ≤ 9223372036854775807) : wrap64 x = x := by
  unfold wrap64
  omega
theorem wf_i64 {x : Int} (h : (Lit.int .i64 x).wf = true) : -9223372036854775808 ≤ x ∧ x ≤ 9223372036854775807 := by
  simp [Lit.wf, IntKind.min, IntKind.max, IntKind.signed, IntKind.bits] at h
  omega

theorem within_eq (a b c : Int) : impl_within.f a b c = some (decide (b ≤ a ∧ a ≤ c)) := by
  unfold impl_within.f
  split <;> simp <;> omega

theorem l1In_eq (a b c : Int) : spec_l1In.f a b c = some (decide (b ≤ a ∧ a ≤ c)) := by
  unfold spec_l1In.f
  split <;> simp <;> omega

theorem some_f {p : Prop} [Decidable p] (h : ¬ p) : some false = some (decide p) := by rw [decide_eq_false h]
theorem some_t {p : Prop} [Decidable p] (h : p) : some true = some (decide p) := by rw [decide_eq_true h]
theorem some_d {p q : Prop} [Decidable p] [Decidable q] (h : p ↔ q) : some (decide p) = some (decide q) := by rw [decide_eq_decide.2 h]
theorem some_b {b : Bool} {p : Prop} [Decidable p] (h : b = true ↔ p) : some b = some (decide p) := by
  congr 1
  rw [Bool.eq_iff_iff, h, decide_eq_true_iff]

def IsDiag (n a b : Int) : Prop := 3 ≤ n ∧ n ≤ 12 ∧ 0 ≤ a ∧ b ≤ n - 1 ∧ 2 ≤ b - a ∧ b - a ≤ n - 2
instance (n a b : Int) : Decidable (IsDiag n a b) := by unfold IsDiag; infer_instance
theorem poIs_eq (n : Int) : spec_poIs.f n = some (decide (3 ≤ n ∧ n ≤ 12)) := by
  unfold spec_poIs.f
  simp only [l1In_eq, Option.bind_some]
theorem isPolygon_eq (n : Int) : impl_isPolygon.f n = some (decide (3 ≤ n ∧ n ≤ 12)) := by
  unfold impl_isPolygon.f
  simp only [within_eq, Option.bind_some]
theorem poDiagonal_eq (n a b : Int) : spec_poDiagonal.f n a b = some (decide (IsDiag n a b)) := by
  unfold spec_poDiagonal.f
  simp only [poIs_eq, l1In_eq, Option.bind_some, decide_eq_true_eq]
  by_cases hn : 3 ≤ n ∧ n ≤ 12
  · rw [if_pos hn, w64 (x := n - 1) (by omega) (by omega), w64 (x := n - 2) (by omega) (by omega)]
    by_cases ha : 0 ≤ a ∧ a ≤ n - 1
    · rw [if_pos ha]
      by_cases hb : 0 ≤ b ∧ b ≤ n - 1
      · rw [if_pos hb, w64 (x := b - a) (by omega) (by omega)]
        by_cases hc : b - a ≥ 2
        · rw [if_pos hc]; exact some_d (by unfold IsDiag; omega)
        · rw [if_neg hc]; exact some_f (by unfold IsDiag; omega)
      · rw [if_neg hb]; exact some_f (by unfold IsDiag; omega)
    · rw [if_neg ha]; exact some_f (by unfold IsDiag; omega)
  · rw [if_neg hn]; exact some_f (by unfold IsDiag; omega)
theorem isDiagonal_eq {n : Int} (hn : 3 ≤ n ∧ n ≤ 12) (a b : Int) : impl_isDiagonal.f n a b = some (decide (IsDiag n a b)) := by
  unfold impl_isDiagonal.f
  simp only [within_eq, Option.bind_some, decide_eq_true_eq]
  rw [w64 (x := n - 1) (by omega) (by omega)]
  by_cases ha : 0 ≤ a ∧ a ≤ n - 1
  · rw [if_pos ha]
    by_cases hb : 0 ≤ b ∧ b ≤ n - 1
    · rw [if_pos hb, w64 (x := b - a) (by omega) (by omega)]
      by_cases hc : b - a > 1
      · rw [if_pos hc]
        by_cases h0 : a = 0
        · rw [if_pos h0]; exact some_b (by unfold IsDiag; simp; omega)
        · rw [if_neg h0]; exact some_b (by unfold IsDiag; simp; omega)
      · rw [if_neg hc]; exact some_f (by unfold IsDiag; omega)
    · rw [if_neg hb]; exact some_f (by unfold IsDiag; omega)
  · rw [if_neg ha]; exact some_f (by unfold IsDiag; omega)

def Cross (a b c d : Int) : Prop := (a < c ∧ c < b ∧ b < d) ∨ (c < a ∧ a < d ∧ d < b)
instance (a b c d : Int) : Decidable (Cross a b c d) := by unfold Cross; infer_instance
theorem poCross_eq (a b c d : Int) : spec_poCross.f a b c d = some (decide (Cross a b c d)) := by
  unfold spec_poCross.f Cross
  (repeat' split) <;> first | exact some_t (by omega) | exact some_f (by omega) | exact some_d (by omega)
theorem doCross_eq (a b c d : Int) : impl_doCross.f a b c d = some (decide (Cross a b c d)) := by
  unfold impl_doCross.f Cross
  (repeat' split) <;> first | exact some_t (by omega) | exact some_f (by omega) | exact some_d (by omega)

theorem rd_nat {l : List Int} {i : Nat} (h : i < l.length) : rd l (i : Int) = l[i] := by
  unfold rd
  rw [Int.toNat_natCast, List.getD_eq_getElem?_getD, List.getElem?_eq_getElem h]
  rfl
theorem rd_drop {l : List Int} {i : Nat} (h : i < l.length) : l.drop i = rd l (i : Int) :: l.drop (i + 1) := by
  rw [rd_nat h, ← List.drop_eq_getElem_cons h]
theorem wsucc {i n : Nat} (h : i < n) (hn : n ≤ 9223372036854775807) : wrap64 ((i : Int) + 1) = ((i + 1 : Nat) : Int) := by
  rw [w64 (by omega) (by omega)]
  omega
theorem ite_t {α : Sort _} {a b : α} : (if true = true then a else b) = a := if_pos rfl
theorem ite_f {α : Sort _} {a b : α} : (if false = true then a else b) = b := if_neg (by decide)
theorem fuel {k d : Nat} (h : d < k) : ∃ m, k = m + 1 ∧ d ≤ m := ⟨k - 1, by omega, by omega⟩

theorem rdT_nat {l : List S46} {i : Nat} (h : i < l.length) : rd_T46 l (i : Int) = l[i] := by
  unfold rd_T46
  rw [Int.toNat_natCast, List.getD_eq_getElem?_getD, List.getElem?_eq_getElem h]
  rfl
theorem rdT_drop {l : List S46} {i : Nat} (h : i < l.length) : l.drop i = rd_T46 l (i : Int) :: l.drop (i + 1) := by
  rw [rdT_nat h, ← List.drop_eq_getElem_cons h]
def lessD (a b c d : Int) : Bool := decide (a < c ∨ (a = c ∧ b < d))
def okAt (n : Int) (l : List S46) (i : Nat) : Bool :=
  decide (IsDiag n (rd_T46 l i).f0 (rd_T46 l i).f1) && (decide (i = 0) || lessD (rd_T46 l ((i : Int) - 1)).f0 (rd_T46 l ((i : Int) - 1)).f1 (rd_T46 l i).f0 (rd_T46 l i).f1) &&
    !((l.take i).any fun e => decide (Cross (rd_T46 l i).f0 (rd_T46 l i).f1 e.f0 e.f1))
def goodFrom (n : Int) (l : List S46) : Nat → Nat → Bool
  | 0, _ => true
  | d + 1, i => okAt n l i && goodFrom n l d (i + 1)
/-- What both programs take a list to be: a triangulation of the polygon. -/
def Good (n : Int) (l : List S46) : Bool := decide (3 ≤ n ∧ n ≤ 12) && (decide ((l.length : Int) = n - 3) && goodFrom n l l.length 0)
theorem cmpInt_eq (a b : Int) : cmp_Compare_int.f a b = some (if a < b then -1 else if a > b then 1 else 0) := by
  unfold cmp_Compare_int.f cmp_isNaN_int.f
  simp only [Option.bind_some, bne_self_eq_false, Bool.false_eq_true, if_false]
  split
  · rfl
  · split <;> rfl
theorem cmpD_eq {k : Nat} (hk : 4 ≤ k) (a b c d : Int) : ∃ r, impl_compareDiagonals.f k a b c d = some r ∧ (decide (r ≥ 0) = !(lessD a b c d)) ∧ (r < 0 ↔ lessD a b c d = true) ∧ (r = 0 ↔ a = c ∧ b = d) := by
  obtain ⟨k, rfl⟩ : ∃ m, k = m + 4 := ⟨k - 4, by omega⟩
  unfold impl_compareDiagonals.f
  rw [cmpInt_eq, cmpInt_eq, Option.bind_some, Option.bind_some]
  have h0 : ∀ x y : Int, rd [x, y] 0 = x := fun _ _ => rfl
  have h1 : ∀ x y : Int, rd [x, y] 1 = y := fun _ _ => rfl
  have hor : ∀ x y : Int, cmp_Or_int.f (k + 4) [x, y] = some (if x = 0 then y else x) := by
    intro x y
    unfold cmp_Or_int.f
    have w1 : wrap64 (0 + 1) = 1 := w64 (by omega) (by omega)
    have w2 : wrap64 (1 + 1) = 2 := w64 (by omega) (by omega)
    have n2 : ((([x, y] : List Int).length : Nat) : Int) = 2 := rfl
    rw [n2]
    simp only [cmp_Or_int.l0, n2, h0, h1, w1, w2]
    by_cases hx : x = 0
    · by_cases hy : y = 0
      · simp [hx, hy]
      · simp [hx, hy]
    · simp [hx]
  rw [hor, Option.bind_some]
  refine ⟨_, rfl, ?_⟩
  unfold lessD
  by_cases h1 : a < c
  · simp [h1]; omega
  · by_cases h2 : a > c
    · simp [h1, h2]; omega
    · obtain rfl : a = c := by omega
      by_cases h3 : b < d
      · simp [h3]; omega
      · by_cases h4 : b > d
        · simp [h3, h4]; omega
        · simp [h3, h4]; omega
theorem wpred {i n : Nat} (h0 : 0 < i) (h : i < n) (hn : n ≤ 9223372036854775807) : wrap64 ((i : Int) - 1) = (i : Int) - 1 := by
  rw [w64 (by omega) (by omega)]
theorem any_cross (a b : Int) (l : List S46) (hl : l.length ≤ 1048576) : impl_Diagonal__at_impl_IsTriangulation_1.f l a b = some (l.any fun e => decide (Cross a b e.f0 e.f1)) := by
  unfold impl_Diagonal__at_impl_IsTriangulation_1.f
  rw [if_pos hl]
  congr 2
  funext e
  rw [Bool.eq_iff_iff, decide_eq_true_iff]
  unfold impl_Diagonal__at_impl_IsTriangulation_1.x Cross
  simp only [Bool.or_eq_true, Bool.and_eq_true, decide_eq_true_eq]
  omega
theorem implTri_l0 (n : Int) (hn : 3 ≤ n ∧ n ≤ 12) (l : List S46) (hl : l.length ≤ 1048576) : ∀ (d k i : Nat), i + d = l.length → d + 5 < k → impl_IsTriangulation.l0 k n l l (l.length : Int) (i : Int) = some (goodFrom n l d i) := by
  intro d
  induction d with
  | zero =>
    intro k i hi hk
    obtain ⟨k, rfl, _⟩ := fuel hk
    simp only [impl_IsTriangulation.l0, goodFrom]
    rw [if_neg (by omega)]
  | succ d ih =>
    intro k i hi hk
    obtain ⟨k, rfl, hk⟩ := fuel hk
    simp only [impl_IsTriangulation.l0, goodFrom, okAt]
    rw [if_pos (by omega), if_pos (by omega), if_pos (by omega), isDiagonal_eq hn, Option.bind_some]
    by_cases h1 : IsDiag n (rd_T46 l i).f0 (rd_T46 l i).f1
    · rw [decide_eq_true h1, ite_t]
      by_cases h2 : (i : Int) > 0
      · rw [if_pos h2, wpred (n := l.length) (by omega) (by omega) (by omega), if_pos (by omega), if_pos (by omega)]
        obtain ⟨r, hr, hr1, hr2, _⟩ := cmpD_eq (k := k) (by omega) (rd_T46 l ((i : Int) - 1)).f0 (rd_T46 l ((i : Int) - 1)).f1 (rd_T46 l i).f0 (rd_T46 l i).f1
        rw [hr, Option.bind_some]
        by_cases h3 : r ≥ 0
        · rw [if_pos h3]
          have : lessD (rd_T46 l ((i : Int) - 1)).f0 (rd_T46 l ((i : Int) - 1)).f1 (rd_T46 l i).f0 (rd_T46 l i).f1 = false := by
            rw [decide_eq_true h3] at hr1
            simpa using hr1.symm
          simp [this]
          omega
        · rw [if_neg h3, if_pos (by omega), any_cross _ _ _ (by rw [List.length_take]; omega), Option.bind_some, hr2.1 (by omega), Int.toNat_natCast, wsucc (n := l.length) (by omega) (by omega), ih k (i + 1) (by omega) (by omega)]
          cases h4 : (l.take i).any fun e => decide (Cross (rd_T46 l i).f0 (rd_T46 l i).f1 e.f0 e.f1) <;> simp
      · rw [if_neg h2, if_pos (by omega), any_cross _ _ _ (by rw [List.length_take]; omega), Option.bind_some, Int.toNat_natCast, wsucc (n := l.length) (by omega) (by omega), ih k (i + 1) (by omega) (by omega)]
        have h3 : i = 0 := by omega
        subst h3
        cases h4 : (l.take 0).any fun e => decide (Cross (rd_T46 l ((0 : Nat) : Int)).f0 (rd_T46 l ((0 : Nat) : Int)).f1 e.f0 e.f1) <;> simp
    · rw [decide_eq_false h1, ite_f]
      simp
theorem implTri_eq (n : Int) (l : List S46) {k : Nat} (hl : l.length ≤ 1048576) (hk : 20 ≤ k) : impl_IsTriangulation.f k n l = some (Good n l) := by
  unfold impl_IsTriangulation.f Good
  obtain ⟨k, rfl⟩ : ∃ m, k = m + 1 := ⟨k - 1, by omega⟩
  rw [isPolygon_eq, Option.bind_some]
  by_cases hn : 3 ≤ n ∧ n ≤ 12
  · rw [decide_eq_true hn, ite_t, w64 (x := n - 3) (by omega) (by omega)]
    simp only [impl_IsTriangulation.j0]
    by_cases h : (l.length : Int) = n - 3
    · rw [bne_eq_false_iff_eq.2 h, ite_f, decide_eq_true h, ← Int.natCast_zero, implTri_l0 n hn l hl l.length k 0 (by omega) (by omega)]
      rfl
    · rw [bne_iff_ne.2 h, ite_t, decide_eq_false h]
      rfl
  · rw [decide_eq_false hn, ite_f]
    simp only [impl_IsTriangulation.j0]
    rfl
theorem poLess_eq (a b c d : Int) : spec_poLess.f a b c d = some (lessD a b c d) := by
  unfold spec_poLess.f lessD
  (repeat' split) <;> first | exact some_t (by omega) | exact some_f (by omega) | exact some_d (by omega)
theorem poGood_l1 (n : Int) (l y : List S46) (L x a b : Int) (hy : y.length ≤ 1048576) : ∀ (d k q : Nat), q + d = y.length →
    spec_poGood.l1 (k + d + 1) n l l L x y (y.length : Int) (q : Int) a b = if (y.drop q).any (fun e => decide (Cross a b e.f0 e.f1)) = true then some false else spec_poGood.l0 k n l l L (wrap64 (x + 1)) := by
  intro d
  induction d with
  | zero =>
    intro k q hq
    simp only [spec_poGood.l1]
    rw [if_neg (by omega), List.drop_of_length_le (by omega)]
    simp
  | succ d ih =>
    intro k q hq
    obtain ⟨m, hm⟩ : ∃ m, m = k + d + 1 := ⟨_, rfl⟩
    rw [show k + (d + 1) + 1 = m + 1 by omega]
    simp only [spec_poGood.l1]
    rw [hm]
    rw [if_pos (by omega), if_pos (by omega), if_pos (by omega), poCross_eq, Option.bind_some, wsucc (n := y.length) (by omega) (by omega), ih k (q + 1) (by omega), rdT_drop (l := y) (i := q) (by omega), List.any_cons]
    by_cases h : Cross a b (rd_T46 y q).f0 (rd_T46 y q).f1
    · rw [decide_eq_true h, ite_t, Bool.true_or, if_pos rfl]
    · rw [decide_eq_false h, ite_f, Bool.false_or]
theorem poGood_j2 (n : Int) (l : List S46) (hl : l.length ≤ 9) (i : Nat) (hi : i < l.length) (a b : Int) (c : Bool) (r : Bool) {k : Nat} (hk : 12 ≤ k)
    (h : ∀ m, k - 12 ≤ m → spec_poGood.l0 m n l l (l.length : Int) ((i + 1 : Nat) : Int) = some r) :
    spec_poGood.j2 k n l (i : Int) l (l.length : Int) (i : Int) c a b = some (!c && (!((l.take i).any fun e => decide (Cross a b e.f0 e.f1)) && r)) := by
  obtain ⟨k, rfl⟩ : ∃ m, k = m + 1 := ⟨k - 1, by omega⟩
  simp only [spec_poGood.j2]
  cases c with
  | true => simp
  | false =>
    have hlen : (l.take i).length = i := by rw [List.length_take]; omega
    obtain ⟨m, hm⟩ : ∃ m, k = m + (l.take i).length + 1 := ⟨k - i - 1, by omega⟩
    rw [ite_f, if_pos (by omega), if_pos (by omega), Option.bind_some, Int.toNat_natCast]
    have h1 := poGood_l1 n l (l.take i) (l.length : Int) (i : Int) a b (by omega) (l.take i).length m 0 (by omega)
    rw [← hm, Int.natCast_zero, wsucc (n := l.length) hi (by omega), List.drop_zero] at h1
    rw [h1, h m (by omega)]
    cases h4 : (l.take i).any fun e => decide (Cross a b e.f0 e.f1) <;> simp
theorem poGood_l0 (n : Int) (hn : 3 ≤ n ∧ n ≤ 12) (l : List S46) (hl : l.length ≤ 9) : ∀ (d k i : Nat), i + d = l.length → 14 * d + 1 ≤ k → spec_poGood.l0 k n l l (l.length : Int) (i : Int) = some (goodFrom n l d i) := by
  intro d
  induction d with
  | zero =>
    intro k i hi hk
    obtain ⟨k, rfl, _⟩ := fuel (show 0 < k by omega)
    simp only [spec_poGood.l0, goodFrom]
    rw [if_neg (by omega)]
  | succ d ih =>
    intro k i hi hk
    obtain ⟨k, rfl⟩ : ∃ m, k = m + 1 := ⟨k - 1, by omega⟩
    have hj := fun (a b : Int) (c : Bool) => poGood_j2 n l hl i (by omega) a b c (goodFrom n l d (i + 1)) (k := k) (by omega) (fun m hm => ih m (i + 1) (by omega) (by omega))
    simp only [spec_poGood.l0, goodFrom, okAt]
    rw [if_pos (by omega), if_pos (by omega), if_pos (by omega), poDiagonal_eq, Option.bind_some]
    by_cases h1 : IsDiag n (rd_T46 l i).f0 (rd_T46 l i).f1
    · rw [decide_eq_true h1, ite_t]
      by_cases h2 : (i : Int) > 0
      · rw [if_pos h2, wpred (n := l.length) (by omega) (by omega) (by omega), if_pos (by omega), if_pos (by omega), poLess_eq, Option.bind_some, hj, decide_eq_false (show ¬ i = 0 by omega)]
        cases lessD (rd_T46 l ((i : Int) - 1)).f0 (rd_T46 l ((i : Int) - 1)).f1 (rd_T46 l i).f0 (rd_T46 l i).f1 <;> simp
      · rw [if_neg h2, hj, decide_eq_true (show i = 0 by omega)]
        simp
    · rw [decide_eq_false h1, ite_f, hj]
      simp
theorem poGood_eq (n : Int) (l : List S46) {k : Nat} (hk : 200 ≤ k) : spec_poGood.f k n l = some (Good n l) := by
  unfold spec_poGood.f Good
  obtain ⟨k, rfl⟩ : ∃ m, k = m + 1 := ⟨k - 1, by omega⟩
  rw [poIs_eq, Option.bind_some]
  by_cases hn : 3 ≤ n ∧ n ≤ 12
  · rw [decide_eq_true hn, ite_t, w64 (x := n - 3) (by omega) (by omega)]
    simp only [spec_poGood.j0]
    by_cases h : (l.length : Int) = n - 3
    · rw [bne_eq_false_iff_eq.2 h, ite_f, decide_eq_true h, ← Int.natCast_zero, poGood_l0 n hn l (by omega) l.length k 0 (by omega) (by omega)]
      rfl
    · rw [bne_iff_ne.2 h, ite_t, decide_eq_false h]
      rfl
  · rw [decide_eq_false hn, ite_f]
    simp only [spec_poGood.j0]
    rfl

/-! what is drawn -/
theorem and255 (x : Int) : 0 ≤ Go.bits .and .u64 x 255 ∧ Go.bits .and .u64 x 255 ≤ 255 := by
  have h : (BitVec.ofInt 64 x &&& BitVec.ofInt 64 255).toNat ≤ 255 := by rw [BitVec.toNat_and]; exact Nat.and_le_right
  show 0 ≤ IntKind.u64.wrap ((BitVec.ofInt 64 x &&& BitVec.ofInt 64 255).toNat : Int) ∧ IntKind.u64.wrap ((BitVec.ofInt 64 x &&& BitVec.ofInt 64 255).toNat : Int) ≤ 255
  generalize (BitVec.ofInt 64 x &&& BitVec.ofInt 64 255).toNat = m at h ⊢
  have e : IntKind.u64.wrap (m : Int) = (m : Int) % 18446744073709551616 := rfl
  rw [e]
  omega
theorem next_ok (l : List Int) (hb : ∀ x ∈ l, 0 ≤ x ∧ x ≤ 255) (p s : Int) (hp : 0 ≤ p ∧ p ≤ 1000000) : ∃ v s', spec_l1Cur_next.f l p s = some (v, p + 1, s') ∧ 0 ≤ v ∧ v ≤ 255 := by
  unfold spec_l1Cur_next.f
  rw [w64 (x := p + 1) (by omega) (by omega)]
  by_cases h1 : p < (l.length : Int)
  · have hm : rd l p ∈ l := by
      unfold rd
      rw [List.getD_eq_getElem?_getD, List.getElem?_eq_getElem (show p.toNat < l.length by omega)]
      exact List.getElem_mem _
    have hv := hb _ hm
    rw [if_pos h1, if_pos hp.1, if_pos (by omega), w64 (x := rd l p) (by omega) (by omega)]
    exact ⟨_, _, rfl, hv.1, hv.2⟩
  · rw [if_neg h1]
    split
    · exact ⟨_, _, rfl, by omega, by omega⟩
    · have hv := and255 ((IntKind.u64.wrap ((IntKind.u64.wrap ((IntKind.u64.wrap (s * 6364136223846793005)) + 0)) + 1442695040888963407)) / 1099511627776)
      exact ⟨_, _, rfl, by rw [w64 (by omega) (by omega)]; omega, by rw [w64 (by omega) (by omega)]; omega⟩
theorem pick_ok (l : List Int) (hb : ∀ x ∈ l, 0 ≤ x ∧ x ≤ 255) (p s n : Int) (hp : 0 ≤ p ∧ p ≤ 1000000) (hn : 1 ≤ n ∧ n ≤ 200) : ∃ x p' s', spec_l1Cur_pick.f l p s n = some (x, p', s') ∧ 0 ≤ x ∧ x < n ∧ 0 ≤ p' ∧ p' ≤ p + 1 := by
  unfold spec_l1Cur_pick.f
  by_cases h1 : n ≤ 1
  · rw [if_pos h1]
    exact ⟨_, _, _, rfl, by omega, by omega, by omega, by omega⟩
  · obtain ⟨v, s', h, v0, v1⟩ := next_ok l hb p s hp
    rw [if_neg h1, h, Option.bind_some, if_neg (by omega), if_neg (by omega)]
    refine ⟨_, _, _, rfl, ?_, ?_, by dsimp only; omega, by dsimp only; omega⟩
    · exact Int.tmod_nonneg _ v0
    · exact Int.tmod_lt_of_pos _ (by omega)
theorem among_ok (l : List Int) (hb : ∀ x ∈ l, 0 ≤ x ∧ x ≤ 255) (p s : Int) (xs : List Int) (hp : 0 ≤ p ∧ p ≤ 1000000) (hx : 1 ≤ xs.length ∧ xs.length ≤ 200) : ∃ x p' s', spec_l1Cur_among.f l p s xs = some (x, p', s') ∧ x ∈ xs ∧ 0 ≤ p' ∧ p' ≤ p + 1 := by
  unfold spec_l1Cur_among.f
  obtain ⟨x, p', s', h, h0, h1, h2, h3⟩ := pick_ok l hb p s (xs.length : Int) hp (by omega)
  rw [h, Option.bind_some, if_pos h0, if_pos h1]
  refine ⟨_, _, _, rfl, ?_, h2, h3⟩
  unfold rd
  rw [List.getD_eq_getElem?_getD, List.getElem?_eq_getElem (show x.toNat < xs.length by omega)]
  exact List.getElem_mem _
theorem ownL {l : List Int} (h : l.length ≤ 1000000) : spec_l1Own.f l = some l := by
  unfold spec_l1Own.f
  rw [Option.bind_some, if_pos (by simp; omega)]
  rfl
theorem tmod_nat (a m : Nat) : Int.tmod (a : Int) (m : Int) = ((a % m : Nat) : Int) := (Int.ofNat_tmod a m).symm
theorem sure_ok (l : List Int) (hb : ∀ x ∈ l, 0 ≤ x ∧ x ≤ 255) : ∀ (d k : Nat) (q : List Int) (p s : Int), 3 ≤ q.length → q.length + d ≤ 9 → d < k → 0 ≤ p ∧ p + d ≤ 1000000 →
    ∃ q' p' s', spec_l1Cur_sureQuiddity.l0 k ((q.length + d : Nat) : Int) q l p s = some (q', p', s') ∧ q'.length = q.length + d ∧ 0 ≤ p' ∧ p' ≤ p + d := by
  intro d
  induction d with
  | zero =>
    intro k q p s h3 h9 hk hp
    obtain ⟨k, rfl, _⟩ := fuel hk
    simp only [spec_l1Cur_sureQuiddity.l0]
    rw [if_neg (by omega)]
    exact ⟨_, _, _, rfl, rfl, by omega, by omega⟩
  | succ d ih =>
    intro k q p s h3 h9 hk hp
    obtain ⟨k, rfl, hk⟩ := fuel hk
    simp only [spec_l1Cur_sureQuiddity.l0]
    obtain ⟨x, p', s', h, h0, h1, h2, h4⟩ := pick_ok l hb p s (q.length : Int) (by omega) (by omega)
    obtain ⟨i, rfl⟩ : ∃ i : Nat, x = i := ⟨x.toNat, by omega⟩
    rw [if_pos (by omega), h, Option.bind_some]
    dsimp only
    rw [w64 (x := 1 + (i : Int)) (by omega) (by omega), show (1 + (i : Int)) = ((i + 1 : Nat) : Int) by omega, w64 (x := ((i + 1 : Nat) : Int) - 1) (by omega) (by omega), w64 (x := ((i + 1 : Nat) : Int) + 1) (by omega) (by omega),
      show ((i + 1 : Nat) : Int) - 1 = (i : Int) by omega, show ((i + 1 : Nat) : Int) + 1 = ((i + 2 : Nat) : Int) by omega]
    simp only [Int.toNat_natCast]
    have ht : (q.take (i + 1)).length = i + 1 := by rw [List.length_take]; omega
    rw [if_pos (by omega), if_pos (by omega), ownL (by omega), Option.bind_some, if_pos (by omega), Option.bind_some, Option.bind_some]
    have hl : (q.take (i + 1) ++ [1] ++ q.drop (i + 1)).length = q.length + 1 := by simp; omega
    rw [if_pos (by simp; omega), Option.bind_some, if_pos (by omega), if_pos (by omega), Option.bind_some, if_neg (by omega), hl, tmod_nat]
    have hmod : (i + 2) % (q.length + 1) < q.length + 1 := Nat.mod_lt _ (by omega)
    rw [if_pos (by omega), if_pos (by omega)]
    obtain ⟨q', p2, s2, e, e1, e2, e3⟩ := ih k (((q.take (i + 1) ++ [1] ++ q.drop (i + 1)).set i (wrap64 (rd (q.take (i + 1) ++ [1] ++ q.drop (i + 1)) (i : Int) + 1))).set ((((i + 2) % (q.length + 1) : Nat) : Int).toNat) (wrap64 (rd ((q.take (i + 1) ++ [1] ++ q.drop (i + 1)).set i (wrap64 (rd (q.take (i + 1) ++ [1] ++ q.drop (i + 1)) (i : Int) + 1))) (((i + 2) % (q.length + 1) : Nat) : Int) + 1))) p' s' (by rw [List.length_set, List.length_set]; omega) (by rw [List.length_set, List.length_set]; omega) (by omega) (by omega)
    rw [List.length_set, List.length_set, hl] at e e1
    refine ⟨q', p2, s2, ?_, by omega, by omega, by omega⟩
    rw [show q.length + (d + 1) = q.length + 1 + d by omega, ← e]
theorem ps_l1 (x8 : List S46) (L i : Int) (d0 d1 : Int) (T : Nat) (x3 : List S46) (hl : x3.length ≤ 1000) (K : Nat) : ∀ (dd k p : Nat), p + dd = x3.length → K + dd + 1 ≤ k →
    (∀ m, K ≤ m → ∀ Y : List S46, Y.length = x3.length + 1 → ∃ S, spec_poSorted.l0 m Y x8 L (wrap64 (i + 1)) = some S ∧ S.length = T) → ∃ S, spec_poSorted.l1 k x3 (p : Int) x8 L i d0 d1 = some S ∧ S.length = T := by
  intro dd
  induction dd with
  | zero =>
    intro k p hp hk h
    obtain ⟨k, rfl⟩ : ∃ m, k = m + 1 := ⟨k - 1, by omega⟩
    simp only [spec_poSorted.l1]
    rw [if_neg (by omega), Option.bind_some, if_pos (by omega), if_pos (by omega), Option.bind_some, Int.toNat_natCast, if_pos (by simp; omega), Option.bind_some, Option.bind_some, if_pos (by simp; omega), Option.bind_some, Option.bind_some, if_pos (by simp; omega)]
    exact h k (by omega) _ (by simp; omega)
  | succ dd ih =>
    intro k p hp hk h
    obtain ⟨k, rfl⟩ : ∃ m, k = m + 1 := ⟨k - 1, by omega⟩
    simp only [spec_poSorted.l1]
    rw [if_pos (by omega), if_pos (by omega), poLess_eq, Option.bind_some]
    cases hc : lessD (rd_T46 x3 p).f0 (rd_T46 x3 p).f1 d0 d1 with
    | true =>
      rw [if_pos rfl, wsucc (n := x3.length) (by omega) (by omega)]
      exact ih k (p + 1) (by omega) (by omega) h
    | false =>
      rw [if_neg (by decide), Option.bind_some, if_pos (by omega), Option.bind_some, Int.toNat_natCast, if_pos (by simp; omega), Option.bind_some, Option.bind_some, if_pos (by simp; omega), Option.bind_some, Option.bind_some, if_pos (by simp; omega)]
      exact h k (by omega) _ (by simp; omega)
theorem ps_l0 (x8 : List S46) (hl : x8.length ≤ 100) : ∀ (dd k i : Nat) (x3 : List S46), i + dd = x8.length → x3.length = i → 104 * dd + 1 ≤ k → ∃ S, spec_poSorted.l0 k x3 x8 (x8.length : Int) (i : Int) = some S ∧ S.length = x8.length := by
  intro dd
  induction dd with
  | zero =>
    intro k i x3 hi h3 hk
    obtain ⟨k, rfl⟩ : ∃ m, k = m + 1 := ⟨k - 1, by omega⟩
    simp only [spec_poSorted.l0]
    rw [if_neg (by omega)]
    exact ⟨_, rfl, by omega⟩
  | succ dd ih =>
    intro k i x3 hi h3 hk
    obtain ⟨k, rfl⟩ : ∃ m, k = m + 1 := ⟨k - 1, by omega⟩
    simp only [spec_poSorted.l0]
    rw [if_pos (by omega), if_pos (by omega), if_pos (by omega)]
    refine ps_l1 x8 _ _ _ _ x8.length x3 (by omega) (104 * dd + 1) x3.length k 0 (by omega) (by omega) fun m hm Y hY => ?_
    rw [wsucc (n := x8.length) (by omega) (by omega)]
    exact ih m (i + 1) Y (by omega) (by omega) hm
theorem ps_ok {l : List S46} (hl : l.length ≤ 10) {k : Nat} (hk : 2000 ≤ k) : ∃ S, spec_poSorted.f k l = some S ∧ S.length = l.length := by
  unfold spec_poSorted.f
  exact ps_l0 l (by omega) l.length k 0 [] (by omega) rfl (by omega)
theorem pl_l1All (l : List Int) (hl : l.length ≤ 1000) : ∀ (d k i : Nat), i + d = l.length → d < k → ∃ b, spec_l1All.l0 k 1 12 l (l.length : Int) (i : Int) = some b := by
  intro d
  induction d with
  | zero =>
    intro k i hi hk
    obtain ⟨k, rfl, _⟩ := fuel hk
    simp only [spec_l1All.l0]
    rw [if_neg (by omega)]
    exact ⟨_, rfl⟩
  | succ d ih =>
    intro k i hi hk
    obtain ⟨k, rfl, hk⟩ := fuel hk
    simp only [spec_l1All.l0]
    rw [if_pos (by omega), if_pos (by omega), if_pos (by omega), l1In_eq, Option.bind_some, wsucc (n := l.length) (by omega) (by omega)]
    by_cases h : decide (1 ≤ rd l (i : Int) ∧ rd l (i : Int) ≤ 12) = true
    · rw [if_pos h]
      exact ih k (i + 1) (by omega) (by omega)
    · rw [if_neg h]
      exact ⟨_, rfl⟩
def OkR (T : Nat) (X : List S46 × Bool) : Prop := X.1.length = 0 ∨ X.1.length = T
theorem of_j4 (T : Nat) (left names : List Int) (out : List S46) (i a b k : Nat) (c : Bool) (hl : left.length ≤ 12) (hn : names.length = left.length) (hi : i < left.length) (ha : a < left.length) (hb : b < left.length) (ho : out.length ≤ 1000)
    (h : ∀ L' N' : List Int, L'.length = left.length - 1 → N'.length = left.length - 1 → ∀ x, ∃ X, spec_poOf.l1 k L' N' (out ++ [x]) = some X ∧ OkR T X) : ∃ X, spec_poOf.j4 (k + 1) left names out (i : Int) (a : Int) (b : Int) c = some X ∧ OkR T X := by
  simp only [spec_poOf.j4]
  cases c with
  | true => rw [if_pos rfl]; exact ⟨_, rfl, Or.inl rfl⟩
  | false =>
    have e1 : ∀ a b : Int, ∃ x, spec_l1Least.f a b = some x := by
      intro a b
      unfold spec_l1Least.f
      split <;> exact ⟨_, rfl⟩
    have e2 : ∀ a b : Int, ∃ x, spec_l1Most.f a b = some x := by
      intro a b
      unfold spec_l1Most.f
      split <;> exact ⟨_, rfl⟩
    obtain ⟨x, hx⟩ := e1 (rd names a) (rd names b)
    obtain ⟨y, hy⟩ := e2 (rd names a) (rd names b)
    rw [if_neg (by decide), if_pos (by omega), if_pos (by omega), if_pos (by omega), if_pos (by omega), hx, hy, Option.bind_some, Option.bind_some, if_pos (by omega), if_pos (by omega), if_pos (by omega), Int.toNat_natCast,
        ownL (by rw [List.length_take]; omega), Option.bind_some, wsucc (n := left.length) hi (by omega), if_pos (by omega), if_pos (by omega), Option.bind_some, Int.toNat_natCast, if_pos (by rw [List.length_take, List.length_drop]; omega), if_pos (by omega),
        ownL (by rw [List.length_take]; omega), Option.bind_some, if_pos (by omega), Option.bind_some, if_pos (by rw [List.length_take, List.length_drop]; omega)]
    exact h _ _ (by simp; omega) (by simp; omega) _
theorem of_l1 : ∀ (d k : Nat) (left names : List Int) (out : List S46), left.length = d + 3 → names.length = d + 3 → d ≤ 9 → out.length + d ≤ 10 → 2001 + 20 * d ≤ k →
    ∃ X, spec_poOf.l1 k left names out = some X ∧ OkR (out.length + d) X := by
  intro d
  induction d with
  | zero =>
    intro k left names out hl hn hd ho hk
    obtain ⟨k, rfl⟩ : ∃ m, k = m + 1 := ⟨k - 1, by omega⟩
    simp only [spec_poOf.l1]
    obtain ⟨S, hS, hL⟩ := ps_ok (l := out) (k := k) (by omega) (by omega)
    rw [if_neg (by omega), hS, Option.bind_some, if_pos (by omega)]
    split
    · rw [if_pos (by omega)]
      split
      · rw [if_pos (by omega)]
        exact ⟨_, rfl, Or.inr hL⟩
      · exact ⟨_, rfl, Or.inr hL⟩
    · exact ⟨_, rfl, Or.inr hL⟩
  | succ d ih =>
    intro k left names out hl hn hd ho hk
    obtain ⟨k, rfl⟩ : ∃ m, k = m + 1 := ⟨k - 1, by omega⟩
    simp only [spec_poOf.l1]
    rw [if_pos (by omega)]
    have hL2 : ∀ (e m i : Nat) (x8 : Int), i + e = left.length → e + 2004 + 20 * d ≤ m → -1 ≤ x8 → x8 < left.length → ∃ X, spec_poOf.l2 m left names out x8 left (left.length : Int) (i : Int) = some X ∧ OkR (out.length + (d + 1)) X := by
      intro e
      induction e with
      | zero =>
        intro m i x8 hi hm h8 h9
        obtain ⟨m, rfl⟩ : ∃ q, m = q + 1 + 1 := ⟨m - 2, by omega⟩
        simp only [spec_poOf.l2]
        rw [if_neg (by omega)]
        by_cases h : x8 < 0
        · rw [if_pos h]
          exact ⟨_, rfl, Or.inl rfl⟩
        · obtain ⟨j, rfl⟩ : ∃ j : Nat, x8 = j := ⟨x8.toNat, by omega⟩
          have hj : j < left.length := by omega
          rw [if_neg h, if_neg (by omega), w64 (x := (j : Int) + (left.length : Int)) (by omega) (by omega), w64 (x := (j : Int) + (left.length : Int) - 1) (by omega) (by omega), show (j : Int) + (left.length : Int) - 1 = ((j + left.length - 1 : Nat) : Int) by omega, tmod_nat,
            w64 (x := (j : Int) + 1) (by omega) (by omega), show (j : Int) + 1 = ((j + 1 : Nat) : Int) by omega, tmod_nat]
          have ha : (j + left.length - 1) % left.length < left.length := Nat.mod_lt _ (by omega)
          have hb : (j + 1) % left.length < left.length := Nat.mod_lt _ (by omega)
          rw [if_pos (by omega), if_pos (by omega), Option.bind_some, if_pos (by omega), if_pos (by omega), Option.bind_some]
          have H : ∀ (L : List Int) (c : Bool), L.length = left.length → ∃ X, spec_poOf.j4 (m + 1) L names out (j : Int) (((j + left.length - 1) % left.length : Nat) : Int) (((j + 1) % left.length : Nat) : Int) c = some X ∧ OkR (out.length + (d + 1)) X := by
            intro L c hLn
            refine of_j4 _ L names out j _ _ m c (by omega) (by omega) (by omega) (by omega) (by omega) (by omega) fun L' N' h1 h2 x => ?_
            obtain ⟨X, hX, hO⟩ := ih m L' N' (out ++ [x]) (by omega) (by omega) (by omega) (by simp; omega) (by omega)
            refine ⟨X, hX, ?_⟩
            rw [List.length_append, List.length_singleton] at hO
            rwa [show out.length + (d + 1) = out.length + 1 + d by omega]
          split
          · exact H _ _ (by rw [List.length_set, List.length_set])
          · exact H _ _ (by rw [List.length_set, List.length_set])
      | succ e ihe =>
        intro m i x8 hi hm h8 h9
        obtain ⟨m, rfl⟩ : ∃ q, m = q + 1 := ⟨m - 1, by omega⟩
        simp only [spec_poOf.l2]
        rw [if_pos (by omega), if_pos (by omega), if_pos (by omega), wsucc (n := left.length) (by omega) (by omega)]
        split
        · split
          · exact ihe m (i + 1) _ (by omega) (by omega) (by omega) (by omega)
          · exact ihe m (i + 1) _ (by omega) (by omega) (by omega) (by omega)
        · exact ihe m (i + 1) _ (by omega) (by omega) (by omega) (by omega)
    exact hL2 left.length k 0 (-1) (by omega) (by omega) (by omega) (by omega)
theorem of_l0 (left : List Int) (hl : 3 ≤ left.length ∧ left.length ≤ 12) : ∀ (d k i : Nat) (N : List Int), i + d = left.length → N.length = i → 2300 + d ≤ k → ∃ X, spec_poOf.l0 k left N (left.length : Int) (i : Int) = some X ∧ OkR (left.length - 3) X := by
  intro d
  induction d with
  | zero =>
    intro k i N hi hN hk
    obtain ⟨k, rfl⟩ : ∃ m, k = m + 1 := ⟨k - 1, by omega⟩
    simp only [spec_poOf.l0]
    rw [if_neg (by omega)]
    have := of_l1 (left.length - 3) k left N [] (by omega) (by omega) (by omega) (by simp; omega) (by omega)
    simpa using this
  | succ d ih =>
    intro k i N hi hN hk
    obtain ⟨k, rfl⟩ : ∃ m, k = m + 1 := ⟨k - 1, by omega⟩
    simp only [spec_poOf.l0]
    rw [if_pos (by omega), if_pos (by omega), wsucc (n := left.length) (by omega) (by omega)]
    exact ih k (i + 1) _ (by omega) (by simp; omega) (by omega)
theorem of_ok (q : List Int) (hq : 3 ≤ q.length ∧ q.length ≤ 12) {k : Nat} (hk : 2400 ≤ k) : ∃ X, spec_poOf.f k q = some X ∧ OkR (q.length - 3) X := by
  unfold spec_poOf.f
  rw [poIs_eq, Option.bind_some, decide_eq_true (show 3 ≤ (q.length : Int) ∧ (q.length : Int) ≤ 12 by omega), if_pos rfl]
  obtain ⟨b, hb⟩ := pl_l1All q (by omega) q.length k 0 (by omega) (by omega)
  unfold spec_l1All.f
  rw [show (0 : Int) = ((0 : Nat) : Int) from rfl, hb, Option.bind_some]
  obtain ⟨k, rfl⟩ : ∃ m, k = m + 1 := ⟨k - 1, by omega⟩
  simp only [spec_poOf.j0]
  cases b with
  | false => exact ⟨_, rfl, Or.inl rfl⟩
  | true =>
    rw [if_neg (by decide), ownL (by omega), Option.bind_some]
    exact of_l0 q hq q.length k 0 [] (by omega) rfl (by omega)
def DrawOk (n : Int) (ds : List S46) : Prop := ds.length ≤ 20 ∧ (Good n ds = true → n ≤ 9)
theorem good_len {n : Int} {ds : List S46} (h : Good n ds = true) : 3 ≤ n ∧ n ≤ 12 ∧ (ds.length : Int) = n - 3 := by
  unfold Good at h
  simp only [Bool.and_eq_true, decide_eq_true_eq] at h
  exact ⟨h.1.1, h.1.2, h.2.1⟩
theorem polygon_ok (l : List Int) (hb : ∀ x ∈ l, 0 ≤ x ∧ x ≤ 255) {k : Nat} (hk : 2400 ≤ k) : ∃ n ds p s, spec_l1Cur_polygon.f k l 0 0 9 = some (n, ds, p, s) ∧ DrawOk n ds ∧ 0 ≤ p ∧ p ≤ 1000 := by
  unfold spec_l1Cur_polygon.f
  rw [w64 (x := 9 - 2) (by omega) (by omega)]
  obtain ⟨x, p1, s1, h1, x0, x1, q0, q1⟩ := pick_ok l hb 0 0 (9 - 2) (by omega) (by omega)
  obtain ⟨i, rfl⟩ : ∃ i : Nat, x = i := ⟨x.toNat, by omega⟩
  rw [h1, Option.bind_some]
  dsimp only
  rw [w64 (x := 3 + (i : Int)) (by omega) (by omega), show 3 + (i : Int) = (([1, 1, 1] : List Int).length + i : Nat) by simp]
  obtain ⟨q, p2, s2, h2, hq, r0, r1⟩ := sure_ok l hb i k [1, 1, 1] p1 s1 (by simp) (by simp; omega) (by omega) (by omega)
  unfold spec_l1Cur_sureQuiddity.f
  rw [h2, Option.bind_some]
  dsimp only
  have e3 : ([1, 1, 1] : List Int).length = 3 := rfl
  rw [e3] at hq ⊢
  obtain ⟨⟨D, b⟩, hX, hO⟩ := of_ok q (by omega) hk
  rw [hX, Option.bind_some]
  dsimp only
  unfold OkR at hO
  dsimp only at hO
  have hD : D.length ≤ 9 := by omega
  obtain ⟨y, p3, s3, h3, y0, y1, t0, t1⟩ := pick_ok l hb p2 s2 16 (by omega) (by omega)
  rw [h3, Option.bind_some]
  dsimp only
  have fin : ∀ ds : List S46, ds.length ≤ 20 → DrawOk ((3 + i : Nat) : Int) ds := fun ds hds => ⟨hds, fun _ => by omega⟩
  by_cases c0 : y = 0
  · rw [if_pos c0]
    by_cases c1 : (D.length : Int) > 0
    · obtain ⟨z, p4, s4, h4, z0, z1, u0, u1⟩ := pick_ok l hb p3 s3 (D.length : Int) (by omega) (by omega)
      obtain ⟨v, p5, s5, h5, _, v0, v1⟩ := among_ok l hb p4 s4 [-1, 0, 1] (by omega) (by simp)
      obtain ⟨v', p6, s6, h6, _, w0, w1⟩ := among_ok l hb p5 s5 [1, 2, 3, ((3 + i : Nat) : Int), 4611686018427387904] (by omega) (by simp)
      rw [if_pos c1, h4, Option.bind_some]
      dsimp only
      rw [h5, Option.bind_some]
      dsimp only
      rw [h6, Option.bind_some, if_pos z0, if_pos z1]
      exact ⟨_, _, _, _, rfl, fin _ (by rw [List.length_set]; omega), by dsimp only; omega, by dsimp only; omega⟩
    · rw [if_neg c1]
      exact ⟨_, _, _, _, rfl, fin _ (by omega), by omega, by omega⟩
  · rw [if_neg c0]
    by_cases c1 : y = 1
    · rw [if_pos c1]
      obtain ⟨v, p4, s4, h4, hv, u0, u1⟩ := among_ok l hb p3 s3 [-1, 2, wrap64 (((3 + i : Nat) : Int) + 1), 4611686018427387904] (by omega) (by simp)
      rw [h4, Option.bind_some]
      refine ⟨v, D, p4, s4, rfl, ⟨by omega, fun hg => ?_⟩, by omega, by omega⟩
      have hg := good_len hg
      rw [w64 (by omega) (by omega)] at hv
      simp only [List.mem_cons, List.not_mem_nil, or_false] at hv
      omega
    · rw [if_neg c1]
      by_cases c2 : y = 2
      · rw [if_pos c2, if_pos (by omega)]
        exact ⟨_, _, _, _, rfl, fin _ (by simp; omega), by omega, by omega⟩
      · rw [if_neg c2]
        exact ⟨_, _, _, _, rfl, fin _ (by omega), by omega, by omega⟩
theorem draw1_ok (l : List Int) (hb : ∀ x ∈ l, 0 ≤ x ∧ x ≤ 255) {k : Nat} (hk : 2400 ≤ k) : ∃ n ds, spec_DrawQuiddityOf.f k l = some (n, ds) ∧ DrawOk n ds := by
  obtain ⟨n, ds, p, s, h, hD, _⟩ := polygon_ok l hb hk
  unfold spec_DrawQuiddityOf.f spec_DrawIsTriangulation.f
  rw [h]
  exact ⟨_, _, rfl, hD⟩
theorem draw2_ok (l : List Int) (hb : ∀ x ∈ l, 0 ≤ x ∧ x ≤ 255) {k : Nat} (hk : 2400 ≤ k) : ∃ m es kk, spec_DrawTurnPolygon.f k l = some (m, es, kk) ∧ DrawOk m es := by
  obtain ⟨n, ds, p, s, h, hD, p0, p1⟩ := polygon_ok l hb hk
  obtain ⟨x, p2, s2, h2, x0, x1, q0, q1⟩ := pick_ok l hb p s 9 (by omega) (by omega)
  obtain ⟨y, p3, s3, h3, y0, y1, r0, r1⟩ := pick_ok l hb p2 s2 9 (by omega) (by omega)
  unfold spec_DrawTurnPolygon.f
  rw [h, Option.bind_some]
  dsimp only
  rw [h2, Option.bind_some]
  dsimp only
  rw [h3, Option.bind_some, if_pos (by dsimp only; omega)]
  exact ⟨_, _, _, rfl, hD⟩
instance decS : DecidableEq S46 := fun a b => if h : a.f0 = b.f0 ∧ a.f1 = b.f1 then isTrue (by cases a; cases b; simp_all) else isFalse (fun e => h (by subst e; exact ⟨rfl, rfl⟩))
def on {α : Type} (x : Option α) (f : α → Bool) : Bool := match x with | some a => f a | none => false
theorem on_elim {α : Type} {x : Option α} {f : α → Bool} (h : on x f = true) : ∃ a, x = some a ∧ f a = true := by
  cases x with
  | none => cases h
  | some a => exact ⟨a, rfl, h⟩
def two {α : Type} [DecidableEq α] (x y : Option α) : Option α := match x, y with | some a, some b => if a = b then some a else none | _, _ => none
theorem two_elim {α : Type} [DecidableEq α] {x y : Option α} {a : α} (h : two x y = some a) : x = some a ∧ y = some a := by
  unfold two at h
  split at h
  · split at h
    · rename_i e
      subst e
      cases h
      exact ⟨rfl, rfl⟩
    · cases h
  · cases h
def chkB (k : Nat) (n : Int) (ds : List S46) (q e : List Int) (t b : List (List Int)) (p : Int) (mr : List S46) (oth : List Int) : Bool :=
  (decide (impl_triangulation.f k q = some (ds, true)) && Good n mr && decide (impl_mirrored.f k n mr = some ds) && decide (laws_uSum.f k q = some (3 * n - 6)) && decide (laws_uCuts.f k ds ds = some true)) &&
  (decide ((q.length : Int) = n) && decide (0 < p) && decide ((oth.length : Int) = n) && decide ((t.length : Int) = n - 2) && decide (ds.length ≤ 1000) && (decide (n ≤ 3) || decide (2 ≤ e.length)) && decide (b.length ≤ 1000) && decide (((laws_FnQuidditiesTell.sm b b.length : Nat) : Int) = 2 * (n - 3)) && decide (n.tmod p = 0)) &&
  ((List.range b.length).all fun i => (List.range (laws_FnQuidditiesTell.row b i).length).all fun j => decide (0 ≤ rd (laws_FnQuidditiesTell.row b i) j ∧ rd (laws_FnQuidditiesTell.row b i) j < (t.length : Int) ∧ rd (laws_FnQuidditiesTell.row b i) j < (b.length : Int) ∧ rd (laws_FnQuidditiesTell.row b i) j ≠ (i : Int) ∧ laws_uHas.f k (laws_FnQuidditiesTell.row b (rd (laws_FnQuidditiesTell.row b i) j)) i = some true)) &&
  ((List.range q.length).all fun i => decide (((laws_FnQuidditiesTell.cnt k t i t.length : Nat) : Int) = rd q i ∧ laws_uHas.f k e i = some (rd q i == 1) ∧ rd oth (n - 1 - i) = rd q i) && (List.range t.length).all fun m => (laws_uHas.f k (laws_FnQuidditiesTell.row t m) i).isSome) &&
  ((List.range ds.length).all fun i => decide (impl_IsDiagonal.f n (rd_T46 ds i).f0 (rd_T46 ds i).f1 = some true) && (List.range i).all fun j => decide (impl_DoCross.f n (rd_T46 ds i).f0 (rd_T46 ds i).f1 (rd_T46 ds j).f0 (rd_T46 ds j).f1 = some (false, true)))
def chk1 (k : Nat) (n : Int) (ds : List S46) : Bool :=
  on (two (impl_quiddity.f k n ds) (spec_poQuiddity.f k n ds)) fun q => on (two (impl_EarsOf.l0 k [] q (q.length : Int) 0) (spec_EarsOf.l0 k [] q (q.length : Int) 0)) fun e => on (two (impl_triangles.f k n ds) (spec_poTriangles.f k n ds)) fun t =>
  on (two (impl_TrianglesBeside.l0 k t [] t (t.length : Int) 0) (spec_TrianglesBeside.l0 k t [] t (t.length : Int) 0)) fun b => on (two (impl_PeriodOfPolygon.l0 k n ds 1) (spec_PeriodOfPolygon.l0 k n ds 1)) fun p => on (two (impl_mirrored.f k n ds) (spec_poMirror.f k n ds)) fun mr =>
  on (impl_quiddity.f k n mr) fun oth => e.2 && b.2 && p.2 && (decide (laws_uSame.f k q q = some true) && decide (laws_uSame.f k e.1 e.1 = some true) && decide (laws_uRows.f k t t = some true) && decide (laws_uRows.f k b.1 b.1 = some true) && decide (laws_uCuts.f k mr mr = some true)) && chkB k n ds q e.1 t b.1 p.1 mr oth
def chk2 (k : Nat) (m : Int) (es : List S46) (a : List Int) (kk : Int) : Bool :=
  on (two (impl_turned.f k m es kk) (spec_poTurn.f k m es kk)) fun tr => on (impl_quiddity.f k m tr) fun b => Good m tr && decide (laws_uCuts.f k tr tr = some true) &&
    decide (impl_turned.f k m tr ((m - kk).tmod m) = some es) && decide ((b.length : Int) = m) && ((List.range a.length).all fun i => decide (rd b (((i : Int) + kk).tmod m) = rd a i))
def chk (k : Nat) (n : Nat) (ds : List S46) : Bool := chk1 k n ds && on (impl_quiddity.f k n ds) fun a => decide (laws_uCuts.f k ds ds = some true) && decide ((a.length : Int) = n) && ((List.range n).all fun kk => chk2 k n ds a kk)
def dgs (n : Nat) : List S46 := (List.range n).flatMap fun (a : Nat) => ((List.range n).filter fun (b : Nat) => decide (IsDiag (n : Int) (a : Int) (b : Int))).map fun (b : Nat) => ⟨(a : Int), (b : Int)⟩
def crs (d e : S46) : Bool := decide (Cross d.f0 d.f1 e.f0 e.f1)
def go : Nat → Nat → List S46 → List (List S46)
  | 0, _, _ => []
  | _ + 1, 0, _ => [[]]
  | _ + 1, _ + 1, [] => []
  | k + 1, m + 1, d :: t => (go k m (t.filter fun e => !crs e d)).map (d :: ·) ++ (if t.length < m then [] else go k (m + 1) t)
def en (n : Nat) : List (List S46) := go 60 (n - 3) (dgs n)
theorem mem_go : ∀ (k m : Nat) (r ds : List S46), m + r.length < k → ds.Sublist r → ds.length = m → ds.Pairwise (fun a b => crs b a = false) → ds ∈ go k m r := by
  intro k
  induction k with
  | zero => intro m r ds h; omega
  | succ k ih =>
    intro m r ds hk hs hl hp
    cases m with
    | zero =>
      obtain rfl := List.eq_nil_of_length_eq_zero hl
      simp [go]
    | succ m =>
      cases hs with
      | slnil => simp at hl
      | cons d hs =>
        rename_i t
        have := hs.length_le
        simp only [go, List.mem_append]
        rw [if_neg (by omega)]
        exact Or.inr (ih (m + 1) _ _ (by simp at hk; omega) hs hl hp)
      | cons_cons d hs =>
        rename_i s t
        simp only [go, List.mem_append]
        refine Or.inl (List.mem_map.2 ⟨s, ?_, rfl⟩)
        rw [List.pairwise_cons] at hp
        have e : s.filter (fun e => !crs e d) = s := List.filter_eq_self.2 fun e he => by rw [hp.1 e he]; rfl
        have hf := hs.filter (fun e => !crs e d)
        rw [e] at hf
        have h1 := List.length_filter_le (fun e => !crs e d) t
        exact ih m _ _ (by simp at hk; omega) hf (by simpa using hl) hp.2
def ltD (a b : S46) : Prop := lessD a.f0 a.f1 b.f0 b.f1 = true
theorem sub_sorted : ∀ (r ds : List S46), r.Pairwise ltD → ds.Pairwise ltD → (∀ d ∈ ds, d ∈ r) → ds.Sublist r := by
  intro r
  induction r with
  | nil =>
    intro ds _ _ h
    cases ds with
    | nil => exact List.Sublist.slnil
    | cons a s => exact absurd (h a (by simp)) (by simp)
  | cons b t ih =>
    intro ds hr hd h
    cases ds with
    | nil => exact List.nil_sublist _
    | cons a s =>
      rw [List.pairwise_cons] at hr hd
      have irr : ∀ x y : S46, ltD x y → ltD y x → False := by
        intro x y h1 h2
        unfold ltD lessD at h1 h2
        rw [decide_eq_true_iff] at h1 h2
        omega
      have hb : ∀ d ∈ s, d ∈ t := by
        intro d hd'
        rcases List.mem_cons.1 (h d (List.mem_cons_of_mem _ hd')) with e | e
        · exfalso
          subst e
          rcases List.mem_cons.1 (h a (by simp)) with e2 | e2
          · subst e2; exact irr _ _ (hd.1 _ hd') (hd.1 _ hd')
          · exact irr _ _ (hd.1 _ hd') (hr.1 _ e2)
        · exact e
      rcases List.mem_cons.1 (h a (by simp)) with e | e
      · subst e
        exact (ih s hr.2 hd.2 hb).cons_cons _
      · refine List.Sublist.cons _ (ih (a :: s) hr.2 (List.pairwise_cons.2 hd) fun d hd' => ?_)
        rcases List.mem_cons.1 hd' with e2 | e2
        · rw [e2]; exact e
        · exact hb d e2
theorem goodFrom_at {n : Int} {l : List S46} : ∀ (d i : Nat), goodFrom n l d i = true → ∀ j, i ≤ j → j < i + d → okAt n l j = true := by
  intro d
  induction d with
  | zero => intro i _ j h1 h2; omega
  | succ d ih =>
    intro i h j h1 h2
    simp only [goodFrom, Bool.and_eq_true] at h
    by_cases e : j = i
    · rw [e]; exact h.1
    · exact ih (i + 1) h.2 j (by omega) (by omega)
theorem good_at {n : Int} {l : List S46} (h : Good n l = true) (j : Nat) (hj : j < l.length) : IsDiag n l[j].f0 l[j].f1 ∧ (∀ h0 : 0 < j, ltD l[j - 1] l[j]) ∧ ∀ e ∈ l.take j, crs l[j] e = false := by
  unfold Good at h
  simp only [Bool.and_eq_true, decide_eq_true_eq] at h
  have h1 := goodFrom_at _ 0 h.2.2 j (by omega) (by omega)
  unfold okAt at h1
  simp only [Bool.and_eq_true, decide_eq_true_eq, Bool.or_eq_true, Bool.not_eq_true', rdT_nat hj] at h1
  refine ⟨h1.1.1, fun h0 => ?_, fun e he => ?_⟩
  · have h2 := h1.1.2.resolve_left (by omega)
    rw [show (j : Int) - 1 = ((j - 1 : Nat) : Int) by omega, rdT_nat (by omega)] at h2
    exact h2
  · have h3 := List.any_eq_false.1 h1.2 e he
    unfold crs
    exact Bool.eq_false_iff.2 h3
theorem good_lt {n : Int} {l : List S46} (h : Good n l = true) : ∀ (j : Nat) (hj : j < l.length) (i : Nat) (hi : i < j), ltD l[i] l[j] := by
  intro j
  induction j with
  | zero => intro _ i hi; omega
  | succ j ih =>
    intro hj i hi
    have h1 := (good_at h (j + 1) hj).2.1 (by omega)
    by_cases e : i = j
    · subst e; exact h1
    · have h2 := ih (by omega) i (by omega)
      unfold ltD lessD at *
      rw [decide_eq_true_iff] at *
      simp only [Nat.add_sub_cancel] at h1
      omega
theorem dgs_mem {n : Nat} {d : S46} (h : IsDiag n d.f0 d.f1) : d ∈ dgs n := by
  unfold dgs
  have h' := h
  unfold IsDiag at h'
  refine List.mem_flatMap.2 ⟨d.f0.toNat, List.mem_range.2 (by omega), List.mem_map.2 ⟨d.f1.toNat, List.mem_filter.2 ⟨List.mem_range.2 (by omega), ?_⟩, ?_⟩⟩
  · rw [show (d.f0.toNat : Int) = d.f0 by omega, show (d.f1.toNat : Int) = d.f1 by omega]
    exact decide_eq_true h
  · rw [show (d.f0.toNat : Int) = d.f0 by omega, show (d.f1.toNat : Int) = d.f1 by omega]
def srtd (l : List S46) : Bool := match l with | [] => true | a :: t => (t.all fun b => lessD a.f0 a.f1 b.f0 b.f1) && srtd t
theorem srtd_pw : ∀ l : List S46, srtd l = true → l.Pairwise ltD := by
  intro l
  induction l with
  | nil => intro _; exact List.Pairwise.nil
  | cons a t ih =>
    intro h
    simp only [srtd, Bool.and_eq_true, List.all_eq_true] at h
    exact List.pairwise_cons.2 ⟨h.1, ih h.2⟩
theorem dgs_srt : ∀ i : Fin 10, srtd (dgs i) = true ∧ (dgs i).length ≤ 40 := by decide +kernel
theorem good_en {n : Nat} {l : List S46} (hn : n ≤ 9) (h : Good n l = true) : l ∈ en n := by
  obtain ⟨h3, _, hl⟩ := good_len h
  have hs := dgs_srt ⟨n, by omega⟩
  refine mem_go 60 (n - 3) (dgs n) l (by have := hs.2; dsimp only at this; omega) (sub_sorted _ _ (srtd_pw _ hs.1) ?_ ?_) (by omega) ?_
  · exact List.pairwise_iff_getElem.2 fun i j hi hj hij => good_lt h j hj i hij
  · intro d hd
    obtain ⟨j, hj, rfl⟩ := List.mem_iff_getElem.1 hd
    exact dgs_mem (good_at h j hj).1
  · refine List.pairwise_iff_getElem.2 fun i j hi hj hij => (good_at h j hj).2.2 _ ?_
    rw [List.mem_iff_getElem]
    exact ⟨i, by simp; omega, by simp⟩
theorem iT {k : Nat} (hk : 400 ≤ k) {n : Int} {ds : List S46} (hl : ds.length ≤ 1000) {b : Bool} (h : Good n ds = b) : impl_IsTriangulation.f k n ds = some b := by rw [implTri_eq n ds (by omega) (by omega), h]
theorem sT {k : Nat} (hk : 400 ≤ k) {n : Int} {ds : List S46} {b : Bool} (h : Good n ds = b) : spec_poGood.f k n ds = some b := by rw [poGood_eq n ds (by omega), h]
theorem part1_of {k : Nat} (hk : 400 ≤ k) {n : Int} {ds : List S46} (hG : Good n ds = true) (hc : chk1 k n ds = true) : laws_FnQuidditiesTell.part1 k n ds := by
  have hg := good_len hG
  have hI := iT hk (by omega) hG
  have hS := sT hk hG
  unfold chk1 at hc
  obtain ⟨q, hq, hc⟩ := on_elim hc
  obtain ⟨e, he, hc⟩ := on_elim hc
  obtain ⟨t, ht, hc⟩ := on_elim hc
  obtain ⟨b, hb, hc⟩ := on_elim hc
  obtain ⟨p, hp, hc⟩ := on_elim hc
  obtain ⟨mr, hm, hc⟩ := on_elim hc
  obtain ⟨oth, ho, hc⟩ := on_elim hc
  obtain ⟨q1, q2⟩ := two_elim hq
  obtain ⟨e1, e2⟩ := two_elim he
  obtain ⟨t1, t2⟩ := two_elim ht
  obtain ⟨b1, b2⟩ := two_elim hb
  obtain ⟨p1, p2⟩ := two_elim hp
  obtain ⟨m1, m2⟩ := two_elim hm
  obtain ⟨e, eb⟩ := e
  obtain ⟨b, bb⟩ := b
  obtain ⟨p, pb⟩ := p
  simp only [Bool.and_eq_true, decide_eq_true_eq] at hc
  obtain ⟨⟨⟨⟨rfl, rfl⟩, rfl⟩, ⟨⟨⟨u1, u2⟩, u3⟩, u4⟩, u5⟩, hB⟩ := hc
  unfold chkB at hB
  simp only [Bool.and_eq_true, Bool.or_eq_true, decide_eq_true_eq, List.all_eq_true, List.mem_range] at hB
  obtain ⟨⟨⟨⟨⟨⟨⟨⟨c1, c2⟩, c3⟩, c4⟩, c5⟩, ⟨⟨⟨⟨⟨⟨⟨d1, d2⟩, d3⟩, d4⟩, d5⟩, d6⟩, d7⟩, d8⟩, d9⟩, f1⟩, f2⟩, f3⟩ := hB
  have gm := good_len c2
  have hIm := iT hk (by omega) c2
  refine ⟨q, e, t, b, p, mr, true, ?_, ?_, ?_, ?_, ?_, ?_, ?_, ?_, ?_, ?_, ?_, ?_, hI, ?_, u1, u2, u3, u4, u5, fun _ => ⟨oth, ?_⟩⟩
  · unfold impl_QuiddityOf.f; rw [hI, Option.bind_some, if_pos rfl, q1]; rfl
  · unfold spec_QuiddityOf.f; rw [hS, Option.bind_some, if_pos rfl, q2]; rfl
  · unfold impl_EarsOf.f; rw [hI, Option.bind_some, if_pos rfl, q1]; exact e1
  · unfold spec_EarsOf.f; rw [hS, Option.bind_some, if_pos rfl, q2]; exact e2
  · unfold impl_TrianglesOf.f; rw [hI, Option.bind_some, if_pos rfl, t1]; rfl
  · unfold spec_TrianglesOf.f; rw [hS, Option.bind_some, if_pos rfl, t2]; rfl
  · unfold impl_TrianglesBeside.f; rw [hI, Option.bind_some, if_pos rfl, t1]; exact b1
  · unfold spec_TrianglesBeside.f; rw [hS, Option.bind_some, if_pos rfl, t2]; exact b2
  · unfold impl_PeriodOfPolygon.f; rw [hI, Option.bind_some, if_pos rfl]; exact p1
  · unfold spec_PeriodOfPolygon.f; rw [hS, Option.bind_some, if_pos rfl]; exact p2
  · unfold impl_MirrorPolygon.f; rw [hI, Option.bind_some, if_pos rfl, m1]; rfl
  · unfold spec_MirrorPolygon.f; rw [hS, Option.bind_some, if_pos rfl, m2]; rfl
  · unfold spec_IsTriangulation.f; rw [hS]; rfl
  · refine ⟨?_, ?_, ?_, ?_, c4, c5, ⟨d1, hg.1, by omega, d2, d3, d4, d5, fun h => d6.resolve_left (by omega), d7, d8⟩, d9, fun i hi j hj => f1 i hi j hj, fun i hi => ?_, fun i hi => ?_⟩
    · unfold impl_TriangulationOf.f; rw [c1]; rfl
    · unfold impl_MirrorPolygon.f; rw [hIm, Option.bind_some, if_pos rfl, c3]; rfl
    · unfold impl_QuiddityOf.f; rw [hIm, Option.bind_some, if_pos rfl, ho]; rfl
    · unfold impl_IsQuiddity.f; rw [c1]; rfl
    · obtain ⟨g, gg⟩ := f2 i hi
      exact ⟨g.1, g.2.1, g.2.2, fun m hm => Option.isSome_iff_exists.1 (gg m hm)⟩
    · exact ⟨(f3 i hi).1, fun j hj => (f3 i hi).2 j hj⟩
theorem part1_no {k : Nat} (hk : 400 ≤ k) {n : Int} {ds : List S46} (hl : ds.length ≤ 1000) (hG : Good n ds = false) : laws_FnQuidditiesTell.part1 k n ds := by
  have hI := iT hk hl hG
  have hS := sT hk hG
  obtain ⟨k, rfl⟩ : ∃ m, k = m + 1 := ⟨k - 1, by omega⟩
  refine ⟨[], [], [], [], 0, [], false, ?_, ?_, ?_, ?_, ?_, ?_, ?_, ?_, ?_, ?_, ?_, ?_, hI, ?_, rfl, rfl, rfl, rfl, rfl, fun h => by cases h⟩
  · unfold impl_QuiddityOf.f; rw [hI]; rfl
  · unfold spec_QuiddityOf.f; rw [hS]; rfl
  · unfold impl_EarsOf.f; rw [hI]; rfl
  · unfold spec_EarsOf.f; rw [hS]; rfl
  · unfold impl_TrianglesOf.f; rw [hI]; rfl
  · unfold spec_TrianglesOf.f; rw [hS]; rfl
  · unfold impl_TrianglesBeside.f; rw [hI]; rfl
  · unfold spec_TrianglesBeside.f; rw [hS]; rfl
  · unfold impl_PeriodOfPolygon.f; rw [hI]; rfl
  · unfold spec_PeriodOfPolygon.f; rw [hS]; rfl
  · unfold impl_MirrorPolygon.f; rw [hI]; rfl
  · unfold spec_MirrorPolygon.f; rw [hS]; rfl
  · unfold spec_IsTriangulation.f; rw [hS]; rfl
theorem part2_of {k : Nat} (hk : 400 ≤ k) {m : Int} {es : List S46} {kk : Int} (hG : Good m es = true) (h0 : 0 ≤ kk) (h1 : kk < m) {a : List Int} (ha : impl_quiddity.f k m es = some a) (hla : (a.length : Int) = m) (hcu : laws_uCuts.f k es es = some true) (hc : chk2 k m es a kk = true) : laws_FnQuidditiesTell.part2 k m es kk := by
  have hg := good_len hG
  have hI := iT hk (by omega) hG
  have hS := sT hk hG
  unfold chk2 at hc
  obtain ⟨tr, ht, hc⟩ := on_elim hc
  obtain ⟨b, hb, hc⟩ := on_elim hc
  obtain ⟨t1, t2⟩ := two_elim ht
  simp only [Bool.and_eq_true, decide_eq_true_eq, List.all_eq_true, List.mem_range] at hc
  obtain ⟨⟨⟨⟨c1, c2⟩, c3⟩, c4⟩, c5⟩ := hc
  have gt := good_len c1
  have hIt := iT hk (by omega) c1
  have w1 : wrap64 (m - 1) = m - 1 := w64 (by omega) (by omega)
  have hmod : 0 ≤ (m - kk).tmod m ∧ (m - kk).tmod m ≤ m - 1 := ⟨Int.tmod_nonneg _ (by omega), by have := Int.tmod_lt_of_pos (m - kk) (show 0 < m by omega); omega⟩
  refine ⟨tr, true, ?_, ?_, c2, fun _ => ⟨a, b, ?_, ?_, ?_, hcu, hg.1, by omega, h0, h1, hla, c4, c5⟩⟩
  · unfold impl_TurnPolygon.f; rw [hI, Option.bind_some, if_pos rfl, w1, within_eq, Option.bind_some, if_pos (decide_eq_true ⟨h0, by omega⟩), t1]; rfl
  · unfold spec_TurnPolygon.f; rw [hS, Option.bind_some, if_pos rfl, w1, l1In_eq, Option.bind_some, if_pos (decide_eq_true ⟨h0, by omega⟩), t2]; rfl
  · unfold impl_QuiddityOf.f; rw [hI, Option.bind_some, if_pos rfl, ha]; rfl
  · unfold impl_QuiddityOf.f; rw [hIt, Option.bind_some, if_pos rfl, hb]; rfl
  · unfold impl_TurnPolygon.f; rw [hIt, Option.bind_some, if_pos rfl, w1, within_eq, Option.bind_some, if_pos (decide_eq_true hmod), c3]; rfl
theorem part2_no {k : Nat} (hk : 400 ≤ k) {m : Int} {es : List S46} {kk : Int} (hl : es.length ≤ 1000) (h : Good m es = false ∨ ¬ (0 ≤ kk ∧ kk < m)) : laws_FnQuidditiesTell.part2 k m es kk := by
  cases hG : Good m es with
  | false =>
    have hI := iT hk hl hG
    have hS := sT hk hG
    obtain ⟨k, rfl⟩ : ∃ m, k = m + 1 := ⟨k - 1, by omega⟩
    refine ⟨[], false, ?_, ?_, rfl, fun h => by cases h⟩
    · unfold impl_TurnPolygon.f; rw [hI]; rfl
    · unfold spec_TurnPolygon.f; rw [hS]; rfl
  | true =>
    have hg := good_len hG
    have hI := iT hk hl hG
    have hS := sT hk hG
    have w1 : wrap64 (m - 1) = m - 1 := w64 (by omega) (by omega)
    have hn : ¬ (0 ≤ kk ∧ kk ≤ m - 1) := by
      rcases h with h | h
      · rw [hG] at h; cases h
      · omega
    obtain ⟨k, rfl⟩ : ∃ m, k = m + 1 := ⟨k - 1, by omega⟩
    refine ⟨[], false, ?_, ?_, rfl, fun h => by cases h⟩
    · unfold impl_TurnPolygon.f; rw [hI, Option.bind_some, if_pos rfl, w1, within_eq, Option.bind_some, if_neg (by rw [decide_eq_false hn]; decide)]
    · unfold spec_TurnPolygon.f; rw [hS, Option.bind_some, if_pos rfl, w1, l1In_eq, Option.bind_some, if_neg (by rw [decide_eq_false hn]; decide)]
theorem chk_part1 {k : Nat} (hk : 400 ≤ k) {n : Nat} {ds : List S46} (hG : Good n ds = true) (hc : chk k n ds = true) : laws_FnQuidditiesTell.part1 k n ds := by
  unfold chk at hc
  rw [Bool.and_eq_true] at hc
  exact part1_of hk hG hc.1
theorem chk_part2 {k : Nat} (hk : 400 ≤ k) {n : Nat} {ds : List S46} {kk : Int} (hG : Good n ds = true) (h0 : 0 ≤ kk) (h1 : kk < n) (hc : chk k n ds = true) : laws_FnQuidditiesTell.part2 k n ds kk := by
  unfold chk at hc
  rw [Bool.and_eq_true] at hc
  obtain ⟨a, ha, hc⟩ := on_elim hc.2
  simp only [Bool.and_eq_true, decide_eq_true_eq, List.all_eq_true, List.mem_range] at hc
  have h2 := hc.2 kk.toNat (by omega)
  rw [show (kk.toNat : Int) = kk by omega] at h2
  exact part2_of hk hG h0 h1 ha hc.1.2 hc.1.1 h2
theorem tell_of {k : Nat} (hk : 2400 ≤ k) (hall : ∀ n : Nat, 3 ≤ n → n ≤ 9 → ∀ ds ∈ en n, chk k n ds = true) (l0 l1 : List Int) (hb0 : ∀ x ∈ l0, (Lit.int .u8 x).wf = true) (hb1 : ∀ x ∈ l1, (Lit.int .u8 x).wf = true) : laws_FnQuidditiesTell.f k l0 l1 := by
  have hw : ∀ l : List Int, (∀ x ∈ l, (Lit.int .u8 x).wf = true) → ∀ x ∈ l, 0 ≤ x ∧ x ≤ 255 := by
    intro l h x hx
    have := h x hx
    simp [Lit.wf, IntKind.min, IntKind.max, IntKind.signed, IntKind.bits] at this
    omega
  have hbig : ∃ b, laws_big.f l0 l1 = some b := by
    unfold laws_big.f
    split <;> exact ⟨_, rfl⟩
  obtain ⟨b, hbig⟩ := hbig
  cases b with
  | true => exact Or.inl hbig
  | false =>
    obtain ⟨n, ds, h1, hd, hn⟩ := draw1_ok l0 (hw l0 hb0) hk
    obtain ⟨m, es, kk, h2, he, hm⟩ := draw2_ok l1 (hw l1 hb1) hk
    refine Or.inr ⟨hbig, ⟨n, ds, h1, ?_⟩, ⟨m, es, kk, h2, ?_⟩⟩
    · cases hG : Good n ds with
      | false => exact part1_no (by omega) (by omega) hG
      | true =>
        have hg := good_len hG
        have h9 := hn hG
        obtain ⟨n, rfl⟩ : ∃ q : Nat, n = q := ⟨n.toNat, by omega⟩
        exact chk_part1 (by omega) hG (hall n (by omega) (by omega) ds (good_en (by omega) hG))
    · cases hG : Good m es with
      | false => exact part2_no (by omega) (by omega) (Or.inl hG)
      | true =>
        have hg := good_len hG
        have h9 := hm hG
        obtain ⟨m, rfl⟩ : ∃ q : Nat, m = q := ⟨m.toNat, by omega⟩
        by_cases hk2 : 0 ≤ kk ∧ kk < m
        · exact chk_part2 (by omega) hG hk2.1 hk2.2 (hall m (by omega) (by omega) es (good_en (by omega) hG))
        · exact part2_no (by omega) (by omega) (Or.inr hk2)

end Go.Proofs.YtobddjeefcoikaaGreat.Pure
