/- The plain statement of FnExactOnesOf, over numbers and lists: the program's answer is the reference's. -/
import Derived.Test.YtinnmloliknilabPFnExactOnesOfx
set_option linter.unusedVariables false
set_option linter.unusedSimpArgs false
namespace Go.Proofs.Ytinnmloliknilab.Pure
open Go.RowKit Go.Proofs.Ytinnmloliknilab.PFnExactOnesOf Go.Proofs.YtinnmloliknilabW.PrintWords Go.Proofs.YtinnmloliknilabW.PrintLast

theorem w64 {x : Int} (h0 : -9223372036854775808 ≤ x) (h1 : x ≤ 9223372036854775807) : wrap64 x = x := by
  unfold wrap64
  omega
theorem wf_i64 {x : Int} (h : (Lit.int .i64 x).wf = true) : -9223372036854775808 ≤ x ∧ x ≤ 9223372036854775807 := by
  simp [Lit.wf, IntKind.min, IntKind.max, IntKind.signed, IntKind.bits] at h
  omega

theorem within_eq (a b c : Int) : impl_within.f a b c = some (decide (b ≤ a ∧ a ≤ c)) := by
  unfold impl_within.f
  split <;> simp <;> omega

theorem l1In_eq (a b c : Int) : spec_l1In.f a b c = some (decide (b ≤ a ∧ a ≤ c)) := by
  unfold spec_l1In.f
  split <;> simp <;> omega

theorem some_f {p : Prop} [Decidable p] (h : ¬ p) : some false = some (decide p) := by rw [decide_eq_false h]
theorem some_t {p : Prop} [Decidable p] (h : p) : some true = some (decide p) := by rw [decide_eq_true h]
theorem some_d {p q : Prop} [Decidable p] [Decidable q] (h : p ↔ q) : some (decide p) = some (decide q) := by rw [decide_eq_decide.2 h]
theorem some_b {b : Bool} {p : Prop} [Decidable p] (h : b = true ↔ p) : some b = some (decide p) := by
  congr 1
  rw [Bool.eq_iff_iff, h, decide_eq_true_iff]

def IsDiag (n a b : Int) : Prop := 3 ≤ n ∧ n ≤ 12 ∧ 0 ≤ a ∧ b ≤ n - 1 ∧ 2 ≤ b - a ∧ b - a ≤ n - 2
instance (n a b : Int) : Decidable (IsDiag n a b) := by unfold IsDiag; infer_instance
theorem poIs_eq (n : Int) : spec_poIs.f n = some (decide (3 ≤ n ∧ n ≤ 12)) := by
  unfold spec_poIs.f
  simp only [l1In_eq, Option.bind_some]
theorem isPolygon_eq (n : Int) : impl_isPolygon.f n = some (decide (3 ≤ n ∧ n ≤ 12)) := by
  unfold impl_isPolygon.f
  simp only [within_eq, Option.bind_some]
theorem isDiagonal_eq {n : Int} (hn : 3 ≤ n ∧ n ≤ 12) (a b : Int) : impl_isDiagonal.f n a b = some (decide (IsDiag n a b)) := by
  unfold impl_isDiagonal.f
  simp only [within_eq, Option.bind_some, decide_eq_true_eq]
  rw [w64 (x := n - 1) (by omega) (by omega)]
  by_cases ha : 0 ≤ a ∧ a ≤ n - 1
  · rw [if_pos ha]
    by_cases hb : 0 ≤ b ∧ b ≤ n - 1
    · rw [if_pos hb, w64 (x := b - a) (by omega) (by omega)]
      by_cases hc : b - a > 1
      · rw [if_pos hc]
        by_cases h0 : a = 0
        · rw [if_pos h0]; exact some_b (by unfold IsDiag; simp; omega)
        · rw [if_neg h0]; exact some_b (by unfold IsDiag; simp; omega)
      · rw [if_neg hc]; exact some_f (by unfold IsDiag; omega)
    · rw [if_neg hb]; exact some_f (by unfold IsDiag; omega)
  · rw [if_neg ha]; exact some_f (by unfold IsDiag; omega)

def Cross (a b c d : Int) : Prop := (a < c ∧ c < b ∧ b < d) ∨ (c < a ∧ a < d ∧ d < b)
instance (a b c d : Int) : Decidable (Cross a b c d) := by unfold Cross; infer_instance
theorem doCross_eq (a b c d : Int) : impl_doCross.f a b c d = some (decide (Cross a b c d)) := by
  unfold impl_doCross.f Cross
  (repeat' split) <;> first | exact some_t (by omega) | exact some_f (by omega) | exact some_d (by omega)

theorem rd_nat {l : List Int} {i : Nat} (h : i < l.length) : rd l (i : Int) = l[i] := by
  unfold rd
  rw [Int.toNat_natCast, List.getD_eq_getElem?_getD, List.getElem?_eq_getElem h]
  rfl
theorem rd_drop {l : List Int} {i : Nat} (h : i < l.length) : l.drop i = rd l (i : Int) :: l.drop (i + 1) := by
  rw [rd_nat h, ← List.drop_eq_getElem_cons h]
theorem wsucc {i n : Nat} (h : i < n) (hn : n ≤ 9223372036854775807) : wrap64 ((i : Int) + 1) = ((i + 1 : Nat) : Int) := by
  rw [w64 (by omega) (by omega)]
  omega
theorem ite_t {α : Sort _} {a b : α} : (if true = true then a else b) = a := if_pos rfl
theorem ite_f {α : Sort _} {a b : α} : (if false = true then a else b) = b := if_neg (by decide)
theorem fuel {k d : Nat} (h : d < k) : ∃ m, k = m + 1 ∧ d ≤ m := ⟨k - 1, by omega, by omega⟩

theorem rdT_nat {l : List S59} {i : Nat} (h : i < l.length) : rd_T59 l (i : Int) = l[i] := by
  unfold rd_T59
  rw [Int.toNat_natCast, List.getD_eq_getElem?_getD, List.getElem?_eq_getElem h]
  rfl
theorem rdT_drop {l : List S59} {i : Nat} (h : i < l.length) : l.drop i = rd_T59 l (i : Int) :: l.drop (i + 1) := by
  rw [rdT_nat h, ← List.drop_eq_getElem_cons h]
theorem eqDiagonal_self (a b : Int) : laws_eqDiagonal.f a b a b = some true := by
  unfold laws_eqDiagonal.f
  rw [if_pos rfl, if_pos rfl]
theorem eqDiagonalS_l0 (l : List S59) (hl : l.length ≤ 9223372036854775807) : ∀ (d k i : Nat), i + d = l.length → d < k → laws_eqDiagonalS.l0 k l l (i : Int) = some true := by
  intro d
  induction d with
  | zero =>
    intro k i hi hk
    obtain ⟨k, rfl, _⟩ := fuel hk
    simp only [laws_eqDiagonalS.l0]
    rw [if_neg (by omega)]
  | succ d ih =>
    intro k i hi hk
    obtain ⟨k, rfl, hk⟩ := fuel hk
    simp only [laws_eqDiagonalS.l0]
    rw [if_pos (by omega), if_pos (by omega), if_pos (by omega), eqDiagonal_self, Option.bind_some, if_pos rfl, wsucc (n := l.length) (by omega) hl]
    exact ih k (i + 1) (by omega) (by omega)
theorem eqDiagonalS_self {l : List S59} {k : Nat} (hl : l.length ≤ 9223372036854775807) (hk : l.length < k) : laws_eqDiagonalS.f k l l = some true := by
  unfold laws_eqDiagonalS.f
  rw [if_pos rfl]
  exact eqDiagonalS_l0 l hl l.length k 0 (by omega) hk

def lessD (a b c d : Int) : Bool := decide (a < c ∨ (a = c ∧ b < d))
def okAt (n : Int) (l : List S59) (i : Nat) : Bool :=
  decide (IsDiag n (rd_T59 l i).f0 (rd_T59 l i).f1) && (decide (i = 0) || lessD (rd_T59 l ((i : Int) - 1)).f0 (rd_T59 l ((i : Int) - 1)).f1 (rd_T59 l i).f0 (rd_T59 l i).f1) &&
    !((l.take i).any fun e => decide (Cross (rd_T59 l i).f0 (rd_T59 l i).f1 e.f0 e.f1))
def goodFrom (n : Int) (l : List S59) : Nat → Nat → Bool
  | 0, _ => true
  | d + 1, i => okAt n l i && goodFrom n l d (i + 1)
/-- What both programs take a list to be: a triangulation of the polygon. -/
def Good (n : Int) (l : List S59) : Bool := decide (3 ≤ n ∧ n ≤ 12) && (decide ((l.length : Int) = n - 3) && goodFrom n l l.length 0)
theorem cmpInt_eq (a b : Int) : cmp_Compare_int.f a b = some (if a < b then -1 else if a > b then 1 else 0) := by
  unfold cmp_Compare_int.f cmp_isNaN_int.f
  simp only [Option.bind_some, bne_self_eq_false, Bool.false_eq_true, if_false]
  split
  · rfl
  · split <;> rfl
theorem cmpD_eq {k : Nat} (hk : 4 ≤ k) (a b c d : Int) : ∃ r, impl_compareDiagonals.f k a b c d = some r ∧ (decide (r ≥ 0) = !(lessD a b c d)) ∧ (r < 0 ↔ lessD a b c d = true) ∧ (r = 0 ↔ a = c ∧ b = d) := by
  obtain ⟨k, rfl⟩ : ∃ m, k = m + 4 := ⟨k - 4, by omega⟩
  unfold impl_compareDiagonals.f
  rw [cmpInt_eq, cmpInt_eq, Option.bind_some, Option.bind_some]
  have h0 : ∀ x y : Int, rd [x, y] 0 = x := fun _ _ => rfl
  have h1 : ∀ x y : Int, rd [x, y] 1 = y := fun _ _ => rfl
  have hor : ∀ x y : Int, cmp_Or_int.f (k + 4) [x, y] = some (if x = 0 then y else x) := by
    intro x y
    unfold cmp_Or_int.f
    have w1 : wrap64 (0 + 1) = 1 := w64 (by omega) (by omega)
    have w2 : wrap64 (1 + 1) = 2 := w64 (by omega) (by omega)
    have n2 : ((([x, y] : List Int).length : Nat) : Int) = 2 := rfl
    rw [n2]
    simp only [cmp_Or_int.l0, n2, h0, h1, w1, w2]
    by_cases hx : x = 0
    · by_cases hy : y = 0
      · simp [hx, hy]
      · simp [hx, hy]
    · simp [hx]
  rw [hor, Option.bind_some]
  refine ⟨_, rfl, ?_⟩
  unfold lessD
  by_cases h1 : a < c
  · simp [h1]; omega
  · by_cases h2 : a > c
    · simp [h1, h2]; omega
    · obtain rfl : a = c := by omega
      by_cases h3 : b < d
      · simp [h3]; omega
      · by_cases h4 : b > d
        · simp [h3, h4]; omega
        · simp [h3, h4]; omega
theorem wpred {i n : Nat} (h0 : 0 < i) (h : i < n) (hn : n ≤ 9223372036854775807) : wrap64 ((i : Int) - 1) = (i : Int) - 1 := by
  rw [w64 (by omega) (by omega)]
theorem any_cross (a b : Int) (l : List S59) (hl : l.length ≤ 1048576) : impl_Diagonal__at_impl_IsTriangulation_1.f l a b = some (l.any fun e => decide (Cross a b e.f0 e.f1)) := by
  unfold impl_Diagonal__at_impl_IsTriangulation_1.f
  rw [if_pos hl]
  congr 2
  funext e
  rw [Bool.eq_iff_iff, decide_eq_true_iff]
  unfold impl_Diagonal__at_impl_IsTriangulation_1.x Cross
  simp only [Bool.or_eq_true, Bool.and_eq_true, decide_eq_true_eq]
  omega
theorem implTri_l0 (n : Int) (hn : 3 ≤ n ∧ n ≤ 12) (l : List S59) (hl : l.length ≤ 1048576) : ∀ (d k i : Nat), i + d = l.length → d + 5 < k → impl_IsTriangulation.l0 k n l l (l.length : Int) (i : Int) = some (goodFrom n l d i) := by
  intro d
  induction d with
  | zero =>
    intro k i hi hk
    obtain ⟨k, rfl, _⟩ := fuel hk
    simp only [impl_IsTriangulation.l0, goodFrom]
    rw [if_neg (by omega)]
  | succ d ih =>
    intro k i hi hk
    obtain ⟨k, rfl, hk⟩ := fuel hk
    simp only [impl_IsTriangulation.l0, goodFrom, okAt]
    rw [if_pos (by omega), if_pos (by omega), if_pos (by omega), isDiagonal_eq hn, Option.bind_some]
    by_cases h1 : IsDiag n (rd_T59 l i).f0 (rd_T59 l i).f1
    · rw [decide_eq_true h1, ite_t]
      by_cases h2 : (i : Int) > 0
      · rw [if_pos h2, wpred (n := l.length) (by omega) (by omega) (by omega), if_pos (by omega), if_pos (by omega)]
        obtain ⟨r, hr, hr1, hr2, _⟩ := cmpD_eq (k := k) (by omega) (rd_T59 l ((i : Int) - 1)).f0 (rd_T59 l ((i : Int) - 1)).f1 (rd_T59 l i).f0 (rd_T59 l i).f1
        rw [hr, Option.bind_some]
        by_cases h3 : r ≥ 0
        · rw [if_pos h3]
          have : lessD (rd_T59 l ((i : Int) - 1)).f0 (rd_T59 l ((i : Int) - 1)).f1 (rd_T59 l i).f0 (rd_T59 l i).f1 = false := by
            rw [decide_eq_true h3] at hr1
            simpa using hr1.symm
          simp [this]
          omega
        · rw [if_neg h3, if_pos (by omega), any_cross _ _ _ (by rw [List.length_take]; omega), Option.bind_some, hr2.1 (by omega), Int.toNat_natCast, wsucc (n := l.length) (by omega) (by omega), ih k (i + 1) (by omega) (by omega)]
          cases h4 : (l.take i).any fun e => decide (Cross (rd_T59 l i).f0 (rd_T59 l i).f1 e.f0 e.f1) <;> simp
      · rw [if_neg h2, if_pos (by omega), any_cross _ _ _ (by rw [List.length_take]; omega), Option.bind_some, Int.toNat_natCast, wsucc (n := l.length) (by omega) (by omega), ih k (i + 1) (by omega) (by omega)]
        have h3 : i = 0 := by omega
        subst h3
        cases h4 : (l.take 0).any fun e => decide (Cross (rd_T59 l ((0 : Nat) : Int)).f0 (rd_T59 l ((0 : Nat) : Int)).f1 e.f0 e.f1) <;> simp
    · rw [decide_eq_false h1, ite_f]
      simp
theorem implTri_eq (n : Int) (l : List S59) {k : Nat} (hl : l.length ≤ 1048576) (hk : 20 ≤ k) : impl_IsTriangulation.f k n l = some (Good n l) := by
  unfold impl_IsTriangulation.f Good
  obtain ⟨k, rfl⟩ : ∃ m, k = m + 1 := ⟨k - 1, by omega⟩
  rw [isPolygon_eq, Option.bind_some]
  by_cases hn : 3 ≤ n ∧ n ≤ 12
  · rw [decide_eq_true hn, ite_t, w64 (x := n - 3) (by omega) (by omega)]
    simp only [impl_IsTriangulation.j0]
    by_cases h : (l.length : Int) = n - 3
    · rw [bne_eq_false_iff_eq.2 h, ite_f, decide_eq_true h, ← Int.natCast_zero, implTri_l0 n hn l hl l.length k 0 (by omega) (by omega)]
      rfl
    · rw [bne_iff_ne.2 h, ite_t, decide_eq_false h]
      rfl
  · rw [decide_eq_false hn, ite_f]
    simp only [impl_IsTriangulation.j0]
    rfl
theorem poLess_eq (a b c d : Int) : spec_poLess.f a b c d = some (lessD a b c d) := by
  unfold spec_poLess.f lessD
  (repeat' split) <;> first | exact some_t (by omega) | exact some_f (by omega) | exact some_d (by omega)
def qAdd (q : List Int) (a b : Int) : List Int := (q.set a.toNat (wrap64 (rd q a + 1))).set b.toNat (wrap64 (rd (q.set a.toNat (wrap64 (rd q a + 1))) b + 1))
def qFold (q : List Int) : List S59 → List Int
  | [] => q
  | d :: l => qFold (qAdd q d.f0 d.f1) l
theorem qAdd_length (q : List Int) (a b : Int) : (qAdd q a b).length = q.length := by simp [qAdd]
theorem qFold_length : ∀ (l : List S59) (q : List Int), (qFold q l).length = q.length
  | [], _ => rfl
  | d :: l, q => by rw [qFold, qFold_length l, qAdd_length]
/-- The triangles at each corner. -/
def quidOf (n : Int) (l : List S59) : List Int := qFold (List.replicate n.toNat 1) l
theorem quidOf_length (n : Int) (l : List S59) : (quidOf n l).length = n.toNat := by rw [quidOf, qFold_length, List.length_replicate]
def InR (n : Int) (l : List S59) : Prop := ∀ i : Nat, i < l.length → 0 ≤ (rd_T59 l i).f0 ∧ (rd_T59 l i).f0 < n ∧ 0 ≤ (rd_T59 l i).f1 ∧ (rd_T59 l i).f1 < n
theorem goodFrom_ok (n : Int) (l : List S59) : ∀ (d i : Nat), goodFrom n l d i = true ↔ ∀ j, i ≤ j → j < i + d → okAt n l j = true := by
  intro d
  induction d with
  | zero => intro i; simp [goodFrom]; intro j h1 h2; omega
  | succ d ih =>
    intro i
    rw [goodFrom, Bool.and_eq_true, ih]
    constructor
    · rintro ⟨h1, h2⟩ j hj1 hj2
      by_cases e : j = i
      · rw [e]; exact h1
      · exact h2 j (by omega) (by omega)
    · intro h
      exact ⟨h i (by omega) (by omega), fun j h1 h2 => h j (by omega) (by omega)⟩
theorem good_iff (n : Int) (l : List S59) : Good n l = true ↔ (3 ≤ n ∧ n ≤ 12) ∧ (l.length : Int) = n - 3 ∧ ∀ j, j < l.length → okAt n l j = true := by
  unfold Good
  rw [Bool.and_eq_true, Bool.and_eq_true, goodFrom_ok, decide_eq_true_eq, decide_eq_true_eq]
  constructor
  · rintro ⟨h1, h2, h3⟩
    exact ⟨h1, h2, fun j hj => h3 j (by omega) (by omega)⟩
  · rintro ⟨h1, h2, h3⟩
    exact ⟨h1, h2, fun j hj1 hj2 => h3 j (by omega)⟩
theorem okAt_diag {n : Int} {l : List S59} {j : Nat} (h : okAt n l j = true) : IsDiag n (rd_T59 l j).f0 (rd_T59 l j).f1 := by
  unfold okAt at h
  rw [Bool.and_eq_true, Bool.and_eq_true] at h
  exact of_decide_eq_true h.1.1
theorem good_inR {n : Int} {l : List S59} (h : Good n l = true) : InR n l := by
  intro i hi
  have h1 := okAt_diag (((good_iff n l).1 h).2.2 i hi)
  unfold IsDiag at h1
  omega
theorem implQ_l0 (l : List S59) (n : Int) (hl : l.length ≤ 1048576) (hR : InR n l) : ∀ (d k i : Nat) (q : List Int), i + d = l.length → d < k → (q.length : Int) = n →
    impl_quiddity.l0 k q l (l.length : Int) (i : Int) = some (qFold q (l.drop i)) := by
  intro d
  induction d with
  | zero =>
    intro k i q hi hk hq
    obtain ⟨k, rfl, _⟩ := fuel hk
    simp only [impl_quiddity.l0]
    rw [if_neg (by omega), List.drop_of_length_le (by omega)]
    rfl
  | succ d ih =>
    intro k i q hi hk hq
    obtain ⟨k, rfl, hk⟩ := fuel hk
    have hr := hR i (by omega)
    simp only [impl_quiddity.l0]
    have hh := ih k (i + 1) (qAdd q (rd_T59 l i).f0 (rd_T59 l i).f1) (by omega) (by omega) (by rw [qAdd_length]; exact hq)
    rw [if_pos (by omega), if_pos (by omega), if_pos (by omega), if_pos (by omega), if_pos (by omega), Option.bind_some, if_pos (by omega), if_pos (by omega), wsucc (n := l.length) (by omega) (by omega), rdT_drop (l := l) (i := i) (by omega), qFold]
    exact hh
theorem implQuid_eq {n : Int} {l : List S59} (hn : 0 ≤ n ∧ n ≤ 12) (hl : l.length ≤ 1048576) (hR : InR n l) {k : Nat} (hk : l.length < k) : impl_quiddity.f k n l = some (quidOf n l) := by
  unfold impl_quiddity.f slices_Repeat_int_int.f
  rw [if_pos ⟨rfl, hn.1, hn.2⟩, Option.bind_some]
  exact implQ_l0 l n hl hR l.length k 0 _ (by omega) hk (by rw [List.length_replicate]; omega)
/-! ### Ears are cut off: what both programs do, over numbers and lists. -/
def nth (l : List Int) (i : Nat) : Int := l.getD i 0
theorem rd_nth (l : List Int) (i : Nat) : rd l (i : Int) = nth l i := rfl
theorem nth_get {l : List Int} {i : Nat} (h : i < l.length) : nth l i = l[i] := by
  unfold nth
  rw [List.getD_eq_getElem?_getD, List.getElem?_eq_getElem h]
  rfl
def bef (i m : Nat) : Nat := (i + m - 1) % m
def beh (i m : Nat) : Nat := (i + 1) % m
theorem bef_eq {i m : Nat} (h : i < m) : bef i m = if i = 0 then m - 1 else i - 1 := by
  unfold bef
  split
  · next e => subst e; rw [Nat.zero_add, Nat.mod_eq_of_lt (by omega)]
  · rw [show i + m - 1 = (i - 1) + m by omega, Nat.add_mod_right, Nat.mod_eq_of_lt (by omega)]
theorem beh_eq {i m : Nat} (h : i < m) : beh i m = if i + 1 = m then 0 else i + 1 := by
  unfold beh
  split
  · next e => rw [e, Nat.mod_self]
  · rw [Nat.mod_eq_of_lt (by omega)]
def cutD (names : List Int) (i : Nat) : S59 :=
  ⟨min (nth names (bef i names.length)) (nth names (beh i names.length)), max (nth names (bef i names.length)) (nth names (beh i names.length))⟩
def dec1 (left : List Int) (j : Nat) : List Int := left.set j (wrap64 (nth left j - 1))
def stepL (left : List Int) (i : Nat) : List Int := (dec1 (dec1 left (bef i left.length)) (beh i left.length)).eraseIdx i
def cut : Nat → List Int → List Int → Option (List S59 × List Int)
  | 0, left, _ => some ([], left)
  | d + 1, left, names =>
    match left.findIdx? (· == 1) with
    | none => none
    | some i => (cut d (stepL left i) (names.eraseIdx i)).map fun r => (cutD names i :: r.1, r.2)
theorem nth_set {l : List Int} {i j : Nat} {v : Int} (hj : j < l.length) : nth (l.set i v) j = if i = j then v else nth l j := by
  rw [nth_get (by rw [List.length_set]; exact hj), List.getElem_set, nth_get hj]
theorem nth_erase {l : List Int} {i j : Nat} (hj : j + 1 < l.length) (hi : i < l.length) : nth (l.eraseIdx i) j = nth l (if j < i then j else j + 1) := by
  rw [nth_get (by rw [List.length_eraseIdx, if_pos hi]; omega), List.getElem_eraseIdx]
  split
  · rw [nth_get (by omega)]
  · rw [nth_get (by omega)]
theorem dec1_length (l : List Int) (j : Nat) : (dec1 l j).length = l.length := List.length_set ..
theorem stepL_length {l : List Int} {i : Nat} (h : i < l.length) : (stepL l i).length = l.length - 1 := by
  rw [stepL, List.length_eraseIdx, dec1_length, dec1_length, if_pos h]
def upd (left : List Int) (i j : Nat) : Int := if j = bef i left.length ∨ j = beh i left.length then wrap64 (nth left j - 1) else nth left j
theorem bef_ne_beh {i m : Nat} (h : i < m) (hm : 3 ≤ m) : bef i m ≠ beh i m ∧ bef i m < m ∧ beh i m < m ∧ bef i m ≠ i ∧ beh i m ≠ i := by
  rw [bef_eq h, beh_eq h]
  (repeat' split) <;> omega
theorem stepL_nth {left : List Int} {i j : Nat} (hi : i < left.length) (hm : 3 ≤ left.length) (hj : j + 1 < left.length) : nth (stepL left i) j = upd left i (if j < i then j else j + 1) := by
  have h := bef_ne_beh hi hm
  rw [stepL, nth_erase (by rw [dec1_length, dec1_length]; exact hj) (by rw [dec1_length, dec1_length]; exact hi)]
  generalize hJ : (if j < i then j else j + 1) = J
  have hJl : J < left.length := by rw [← hJ]; split <;> omega
  unfold dec1 upd
  rw [nth_set (by rw [List.length_set]; exact hJl), nth_set hJl, nth_set h.2.2.1, if_neg h.1]
  by_cases e1 : beh i left.length = J
  · rw [if_pos e1, if_pos (Or.inr e1.symm), e1]
  · rw [if_neg e1]
    by_cases e2 : bef i left.length = J
    · rw [if_pos e2, if_pos (Or.inl e2.symm), e2]
    · rw [if_neg e2, if_neg (by omega)]
def cnt : List S59 → Int → Int
  | [], _ => 0
  | e :: l, c => (if e.f0 = c then 1 else 0) + (if e.f1 = c then 1 else 0) + cnt l c
theorem cnt_bound (c : Int) : ∀ l : List S59, (∀ e ∈ l, e.f0 < e.f1) → 0 ≤ cnt l c ∧ cnt l c ≤ l.length
  | [], _ => by simp [cnt]
  | e :: l, h => by
    have h1 := cnt_bound c l (fun x hx => h x (List.mem_cons_of_mem _ hx))
    have h2 := h e (List.mem_cons_self ..)
    rw [cnt, List.length_cons]
    split <;> split <;> omega
theorem cnt_perm {l m : List S59} (h : l.Perm m) (c : Int) : cnt l c = cnt m c := by
  induction h with
  | nil => rfl
  | cons x _ ih => rw [cnt, cnt, ih]
  | swap x y l => simp only [cnt]; omega
  | trans _ _ h1 h2 => rw [h1, h2]
theorem cnt_zero {c : Int} : ∀ l : List S59, (∀ e ∈ l, e.f0 ≠ c ∧ e.f1 ≠ c) → cnt l c = 0
  | [], _ => rfl
  | e :: l, h => by
    have h2 := h e (List.mem_cons_self ..)
    rw [cnt, if_neg h2.1, if_neg h2.2, cnt_zero l (fun x hx => h x (List.mem_cons_of_mem _ hx))]
    rfl
def Inc (names : List Int) : Prop := ∀ i j, i < j → j < names.length → nth names i < nth names j
theorem Inc.erase {names : List Int} (h : Inc names) {k : Nat} (hk : k < names.length) : Inc (names.eraseIdx k) := by
  intro i j hij hj
  rw [List.length_eraseIdx, if_pos hk] at hj
  rw [nth_erase (by omega) hk, nth_erase (by omega) hk]
  exact h _ _ (by split <;> split <;> omega) (by split <;> omega)
theorem mem_nth {l : List Int} {x : Int} : x ∈ l ↔ ∃ i, i < l.length ∧ nth l i = x := by
  rw [List.mem_iff_getElem]
  constructor
  · rintro ⟨i, hi, e⟩; exact ⟨i, hi, by rw [nth_get hi, e]⟩
  · rintro ⟨i, hi, e⟩; exact ⟨i, hi, by rw [← nth_get hi, e]⟩
theorem mem_erase {l : List Int} {k : Nat} (hk : k < l.length) {x : Int} (h : x ∈ l.eraseIdx k) : ∃ i, i < l.length ∧ i ≠ k ∧ nth l i = x := by
  obtain ⟨i, hi, e⟩ := mem_nth.1 h
  rw [List.length_eraseIdx, if_pos hk] at hi
  rw [nth_erase (by omega) hk] at e
  exact ⟨_, by split <;> omega, by split <;> omega, e⟩
theorem Inc.inj {names : List Int} (h : Inc names) {i j : Nat} (hi : i < names.length) (hj : j < names.length) (e : nth names i = nth names j) : i = j := by
  rcases Nat.lt_trichotomy i j with c | c | c
  · have := h _ _ c hj; omega
  · exact c
  · have := h _ _ c hi; omega
theorem Inc.le {names : List Int} (h : Inc names) {i j : Nat} (hij : i ≤ j) (hj : j < names.length) : nth names i ≤ nth names j := by
  by_cases e : i = j
  · rw [e]; omega
  · have := h i j (by omega) hj; omega
def Side (a b : Int) (l : List Int) : Prop := (∀ w ∈ l, a ≤ w ∧ w ≤ b) ∨ (∀ w ∈ l, w ≤ a ∨ b ≤ w)
theorem cutD_form {names : List Int} (h : Inc names) {i : Nat} (hi : i < names.length) (hm : 4 ≤ names.length) :
    ((cutD names i).f0 ∈ names ∧ (cutD names i).f1 ∈ names) ∧ (∃ u ∈ names, (cutD names i).f0 < u ∧ u < (cutD names i).f1) ∧ (∃ v ∈ names, v < (cutD names i).f0 ∨ (cutD names i).f1 < v) ∧ Side (cutD names i).f0 (cutD names i).f1 (names.eraseIdx i) := by
  have M : ∀ j, j < names.length → nth names j ∈ names := fun j hj => mem_nth.2 ⟨j, hj, rfl⟩
  unfold cutD
  rw [bef_eq hi, beh_eq hi]
  by_cases h0 : i = 0
  · subst h0
    rw [if_pos rfl, if_neg (by omega)]
    have h1 := h 1 (names.length - 1) (by omega) (by omega)
    rw [show min (nth names (names.length - 1)) (nth names (0 + 1)) = nth names 1 by simp; omega, show max (nth names (names.length - 1)) (nth names (0 + 1)) = nth names (names.length - 1) by simp; omega]
    refine ⟨⟨M _ (by omega), M _ (by omega)⟩, ⟨nth names 2, M _ (by omega), h _ _ (by omega) (by omega), h _ _ (by omega) (by omega)⟩, ⟨nth names 0, M _ (by omega), Or.inl (h _ _ (by omega) (by omega))⟩, Or.inl fun w hw => ?_⟩
    obtain ⟨j, hj, hne, rfl⟩ := mem_erase hi hw
    exact ⟨h.le (by omega) (by omega), h.le (by omega) (by omega)⟩
  · rw [if_neg h0]
    by_cases h1 : i + 1 = names.length
    · rw [if_pos h1]
      have h2 := h 0 (i - 1) (by omega) (by omega)
      rw [show min (nth names (i - 1)) (nth names 0) = nth names 0 by omega, show max (nth names (i - 1)) (nth names 0) = nth names (i - 1) by omega]
      refine ⟨⟨M _ (by omega), M _ (by omega)⟩, ⟨nth names 1, M _ (by omega), h _ _ (by omega) (by omega), h _ _ (by omega) (by omega)⟩, ⟨nth names i, M _ (by omega), Or.inr (h _ _ (by omega) (by omega))⟩, Or.inl fun w hw => ?_⟩
      obtain ⟨j, hj, hne, rfl⟩ := mem_erase hi hw
      exact ⟨h.le (by omega) (by omega), h.le (by omega) (by omega)⟩
    · rw [if_neg h1]
      have h2 := h (i - 1) (i + 1) (by omega) (by omega)
      rw [show min (nth names (i - 1)) (nth names (i + 1)) = nth names (i - 1) by omega, show max (nth names (i - 1)) (nth names (i + 1)) = nth names (i + 1) by omega]
      refine ⟨⟨M _ (by omega), M _ (by omega)⟩, ⟨nth names i, M _ (by omega), h _ _ (by omega) (by omega), h _ _ (by omega) (by omega)⟩, ?_, Or.inr fun w hw => ?_⟩
      · by_cases h3 : i = 1
        · exact ⟨nth names 3, M _ (by omega), Or.inr (h _ _ (by omega) (by omega))⟩
        · exact ⟨nth names 0, M _ (by omega), Or.inl (h _ _ (by omega) (by omega))⟩
      · obtain ⟨j, hj, hne, rfl⟩ := mem_erase hi hw
        by_cases h3 : j < i
        · exact Or.inl (h.le (by omega) (by omega))
        · exact Or.inr (h.le (by omega) (by omega))
theorem cut_some {d : Nat} {left names : List Int} {N : List S59} {r : List Int} (h : cut (d + 1) left names = some (N, r)) :
    ∃ i N', i < left.length ∧ nth left i = 1 ∧ left.findIdx? (· == 1) = some i ∧ cut d (stepL left i) (names.eraseIdx i) = some (N', r) ∧ N = cutD names i :: N' := by
  rw [cut] at h
  cases hf : left.findIdx? (· == 1) with
  | none => rw [hf] at h; cases h
  | some i =>
    rw [hf] at h
    obtain ⟨hi, h1, _⟩ := List.findIdx?_eq_some_iff_getElem.1 hf
    obtain ⟨⟨N', r'⟩, h2, h3⟩ := Option.map_eq_some_iff.1 h
    obtain ⟨rfl, rfl⟩ := Prod.mk.inj h3
    exact ⟨i, N', hi, by rw [nth_get hi]; simpa using h1, rfl, h2, rfl⟩
theorem cut_geo : ∀ (d : Nat) (left names : List Int) (N : List S59) (r : List Int), left.length = d + 3 → names.length = d + 3 → Inc names → cut d left names = some (N, r) →
    N.length = d ∧ (∀ e ∈ N, (e.f0 ∈ names ∧ e.f1 ∈ names) ∧ (∃ u ∈ names, e.f0 < u ∧ u < e.f1) ∧ ∃ v ∈ names, v < e.f0 ∨ e.f1 < v) ∧ N.Pairwise fun a b => ¬ Cross a.f0 a.f1 b.f0 b.f1 ∧ a ≠ b := by
  intro d
  induction d with
  | zero =>
    intro left names N r hl hn hI h
    rw [cut] at h
    obtain ⟨rfl, rfl⟩ := Prod.mk.inj (Option.some.inj h)
    exact ⟨rfl, fun e he => absurd he List.not_mem_nil, List.Pairwise.nil⟩
  | succ d ih =>
    intro left names N r hl hn hI h
    obtain ⟨i, N', hi, h1, _, h2, rfl⟩ := cut_some h
    have hin : i < names.length := by omega
    obtain ⟨g1, g2, g3⟩ := ih (stepL left i) (names.eraseIdx i) N' r (by rw [stepL_length hi]; omega) (by rw [List.length_eraseIdx, if_pos hin]; omega) (hI.erase hin) h2
    obtain ⟨c1, c2, c3, c4⟩ := cutD_form hI hin (by omega)
    have sub : ∀ x, x ∈ names.eraseIdx i → x ∈ names := fun x hx => List.mem_of_mem_eraseIdx hx
    refine ⟨by rw [List.length_cons, g1], ?_, List.Pairwise.cons ?_ g3⟩
    · intro e he
      rcases List.mem_cons.1 he with rfl | he
      · exact ⟨c1, c2, c3⟩
      · obtain ⟨⟨a1, a2⟩, ⟨u, hu, hu2⟩, ⟨v, hv, hv2⟩⟩ := g2 e he
        exact ⟨⟨sub _ a1, sub _ a2⟩, ⟨u, sub _ hu, hu2⟩, ⟨v, sub _ hv, hv2⟩⟩
    · intro e he
      obtain ⟨⟨a1, a2⟩, ⟨u, hu, hu2⟩, ⟨v, hv, hv2⟩⟩ := g2 e he
      rcases c4 with s | s
      · have s1 := s _ a1; have s2 := s _ a2; have s3 := s _ hv
        refine ⟨by unfold Cross; omega, fun e2 => ?_⟩
        rw [← e2] at hv2
        omega
      · have s1 := s _ a1; have s2 := s _ a2; have s3 := s _ hu
        refine ⟨by unfold Cross; omega, fun e2 => ?_⟩
        rw [← e2] at hu2
        omega
def i64 (x : Int) : Prop := -9223372036854775808 ≤ x ∧ x ≤ 9223372036854775807
theorem wrap_i64 (x : Int) : i64 (wrap64 x) := by unfold i64 wrap64; omega
theorem stepL_i64 {left : List Int} {i : Nat} (hi : i < left.length) (hm : 3 ≤ left.length) (h : ∀ j, j < left.length → i64 (nth left j)) : ∀ j, j < (stepL left i).length → i64 (nth (stepL left i) j) := by
  intro j hj
  rw [stepL_length hi] at hj
  rw [stepL_nth hi hm (by omega)]
  have hJ : (if j < i then j else j + 1) < left.length := by split <;> omega
  generalize (if j < i then j else j + 1) = J at hJ ⊢
  unfold upd
  split
  · exact wrap_i64 _
  · exact h _ hJ
theorem cut_val : ∀ (d : Nat) (left names : List Int) (N : List S59), left.length = d + 3 → names.length = d + 3 → Inc names → d ≤ 9 → (∀ j, j < left.length → i64 (nth left j)) → cut d left names = some (N, [1, 1, 1]) →
    ∀ j, j < d + 3 → nth left j = 1 + cnt N (nth names j) := by
  intro d
  induction d with
  | zero =>
    intro left names N hl hn hI hd hw h j hj
    rw [cut] at h
    obtain ⟨rfl, rfl⟩ := Prod.mk.inj (Option.some.inj h)
    rw [cnt]
    match j, hj with
    | 0, _ => rfl
    | 1, _ => rfl
    | 2, _ => rfl
  | succ d ih =>
    intro left names N hl hn hI hd hw h j hj
    obtain ⟨i, N', hi, h1, _, h2, rfl⟩ := cut_some h
    have hin : i < names.length := by omega
    have hb := bef_ne_beh hi (by omega)
    have hs : (stepL left i).length = d + 3 := by rw [stepL_length hi]; omega
    have he : (names.eraseIdx i).length = d + 3 := by rw [List.length_eraseIdx, if_pos hin]; omega
    have gg := cut_geo d (stepL left i) (names.eraseIdx i) N' _ hs he (hI.erase hin) h2
    have gv := ih (stepL left i) (names.eraseIdx i) N' hs he (hI.erase hin) (by omega) (stepL_i64 hi (by omega) hw) h2
    have hlt : ∀ e ∈ N', e.f0 < e.f1 := by
      intro e he2
      obtain ⟨_, ⟨u, _, hu⟩, _⟩ := gg.2.1 e he2
      omega
    have hc : cnt (cutD names i :: N') (nth names j) = (if j = bef i left.length then 1 else 0) + (if j = beh i left.length then 1 else 0) + cnt N' (nth names j) := by
      rw [cnt]
      unfold cutD
      rw [show names.length = left.length by omega]
      have e1 : (nth names (bef i left.length) = nth names j) ↔ j = bef i left.length := ⟨fun e => (hI.inj (by omega) (by omega) e).symm, fun e => by rw [e]⟩
      have e2 : (nth names (beh i left.length) = nth names j) ↔ j = beh i left.length := ⟨fun e => (hI.inj (by omega) (by omega) e).symm, fun e => by rw [e]⟩
      rcases Int.le_total (nth names (bef i left.length)) (nth names (beh i left.length)) with c | c
      · rw [Int.min_eq_left c, Int.max_eq_right c]
        simp only [e1, e2]
      · rw [Int.min_eq_right c, Int.max_eq_left c]
        simp only [e1, e2]
        omega
    rw [hc]
    by_cases hji : j = i
    · subst hji
      rw [if_neg (fun e => hb.2.2.2.1 e.symm), if_neg (fun e => hb.2.2.2.2 e.symm), h1, cnt_zero N']
      · rfl
      · intro e he2
        have g := (gg.2.1 e he2).1
        constructor
        · intro e3
          obtain ⟨q, hq, hne, hq2⟩ := mem_erase hin g.1
          exact hne (hI.inj hq hin (hq2.trans e3))
        · intro e3
          obtain ⟨q, hq, hne, hq2⟩ := mem_erase hin g.2
          exact hne (hI.inj hq hin (hq2.trans e3))
    · have g := gv (if j < i then j else j - 1) (by split <;> omega)
      have hJ : (if (if j < i then j else j - 1) < i then (if j < i then j else j - 1) else (if j < i then j else j - 1) + 1) = j := by
        by_cases c : j < i
        · rw [if_pos c, if_pos c]
        · rw [if_neg c, if_neg (by omega)]; omega
      rw [stepL_nth hi (by omega) (by split <;> omega), nth_erase (by split <;> omega) hin, hJ] at g
      have hcb := cnt_bound (nth names j) N' hlt
      rw [gg.1] at hcb
      have hwj := hw j (by omega)
      unfold upd at g
      unfold i64 at hwj
      by_cases c1 : j = bef i left.length
      · rw [if_pos (Or.inl c1)] at g
        rw [if_pos c1, if_neg (by omega)]
        unfold wrap64 at g
        omega
      · by_cases c2 : j = beh i left.length
        · rw [if_pos (Or.inr c2)] at g
          rw [if_neg c1, if_pos c2]
          unfold wrap64 at g
          omega
        · rw [if_neg (by omega)] at g
          rw [if_neg c1, if_neg c2]
          omega

def leD (a b : S59) : Prop := a.f0 < b.f0 ∨ (a.f0 = b.f0 ∧ a.f1 ≤ b.f1)
theorem leD_refl (a : S59) : leD a a := Or.inr ⟨rfl, Int.le_refl _⟩
theorem leD_trans {a b c : S59} (h1 : leD a b) (h2 : leD b c) : leD a c := by unfold leD at *; omega
theorem leD_anti {a b : S59} (h1 : leD a b) (h2 : leD b a) : a = b := by
  obtain ⟨a0, a1⟩ := a
  obtain ⟨b0, b1⟩ := b
  unfold leD at h1 h2
  simp only at h1 h2
  obtain rfl : a0 = b0 := by omega
  obtain rfl : a1 = b1 := by omega
  rfl
theorem less_le {a b : S59} (h : lessD a.f0 a.f1 b.f0 b.f1 = true) : leD a b := by
  have := of_decide_eq_true h
  unfold leD; omega
theorem nless_le {a b : S59} (h : lessD a.f0 a.f1 b.f0 b.f1 = false) : leD b a := by
  have := of_decide_eq_false h
  unfold leD; omega
theorem le_ne_less {a b : S59} (h : leD a b) (hn : a ≠ b) : lessD a.f0 a.f1 b.f0 b.f1 = true := by
  cases hc : lessD a.f0 a.f1 b.f0 b.f1 with
  | true => rfl
  | false => exact absurd (leD_anti h (nless_le hc)) hn
/-- A sorted form. -/
def Srt (N S : List S59) : Prop := S.Perm N ∧ S.Pairwise leD
theorem Srt.unique {N S S' : List S59} (h : Srt N S) (h' : Srt N S') : S = S' :=
  List.Perm.eq_of_pairwise (fun a b _ _ h1 h2 => leD_anti h1 h2) h.2 h'.2 (h.1.trans h'.1.symm)
def namesTo : Nat → List Int
  | 0 => []
  | n + 1 => namesTo n ++ [(n : Int)]
theorem namesTo_length : ∀ n, (namesTo n).length = n
  | 0 => rfl
  | n + 1 => by rw [namesTo, List.length_append, namesTo_length n]; rfl
theorem namesTo_nth : ∀ (n j : Nat), j < n → nth (namesTo n) j = j
  | n + 1, j, h => by
    rw [namesTo]
    unfold nth
    rw [List.getD_eq_getElem?_getD]
    by_cases c : j < n
    · rw [List.getElem?_append_left (by rw [namesTo_length]; exact c)]
      have := namesTo_nth n j c
      unfold nth at this
      rw [List.getD_eq_getElem?_getD] at this
      exact this
    · rw [List.getElem?_append_right (by rw [namesTo_length]; omega), namesTo_length, show j - n = 0 by omega]
      simp
      omega
theorem namesTo_inc (n : Nat) : Inc (namesTo n) := by
  intro i j h1 h2
  rw [namesTo_length] at h2
  rw [namesTo_nth _ _ (by omega), namesTo_nth _ _ h2]
  omega
theorem namesTo_mem {n : Nat} {x : Int} (h : x ∈ namesTo n) : 0 ≤ x ∧ x < n := by
  obtain ⟨i, hi, rfl⟩ := mem_nth.1 h
  rw [namesTo_length] at hi
  rw [namesTo_nth _ _ hi]
  omega
theorem nth_ext {a b : List Int} (hl : a.length = b.length) (h : ∀ i, i < a.length → nth a i = nth b i) : a = b := by
  apply List.ext_getElem hl
  intro i h1 h2
  have := h i h1
  rwa [nth_get h1, nth_get h2] at this
theorem qAdd_nth {q : List Int} {a b : Int} (ha : 0 ≤ a ∧ a < q.length) (hb : 0 ≤ b ∧ b < q.length) (hab : a ≠ b) (hq : ∀ j, j < q.length → 0 ≤ nth q j ∧ nth q j ≤ 1000) {c : Nat} (hc : c < q.length) :
    nth (qAdd q a b) c = nth q c + ((if a = (c : Int) then 1 else 0) + (if b = (c : Int) then 1 else 0)) := by
  unfold qAdd
  have r1 : ∀ (l : List Int) (x : Int), rd l x = nth l x.toNat := fun _ _ => rfl
  have ha2 := hq a.toNat (by omega)
  have hb2 := hq b.toNat (by omega)
  rw [nth_set (by rw [List.length_set]; exact hc), nth_set hc, r1, r1, nth_set (by omega), if_neg (show ¬ (a.toNat = b.toNat) by omega), w64 (x := nth q b.toNat + 1) (by omega) (by omega), w64 (x := nth q a.toNat + 1) (by omega) (by omega)]
  by_cases c1 : b = (c : Int)
  · rw [if_pos (by omega), if_neg (by omega), if_pos c1, show b.toNat = c by omega]; omega
  · by_cases c2 : a = (c : Int)
    · rw [if_neg (by omega), if_pos (by omega), if_pos c2, if_neg c1, show a.toNat = c by omega]; omega
    · rw [if_neg (by omega), if_neg (by omega), if_neg c2, if_neg c1]; omega
theorem qFold_nth : ∀ (l : List S59) (q : List Int) (B : Int), (∀ e ∈ l, (0 ≤ e.f0 ∧ e.f0 < e.f1 ∧ e.f1 < q.length)) → (∀ j, j < q.length → 0 ≤ nth q j ∧ nth q j ≤ B) → B + l.length ≤ 900 → ∀ c, c < q.length → nth (qFold q l) c = nth q c + cnt l c := by
  intro l
  induction l with
  | nil => intro q B _ _ _ c _; rw [qFold, cnt]; omega
  | cons e l ih =>
    intro q B he hq hB c hc
    have h1 := he e (List.mem_cons_self ..)
    rw [List.length_cons] at hB
    have hs := fun (c : Nat) (hc : c < q.length) => qAdd_nth (q := q) (a := e.f0) (b := e.f1) (by omega) (by omega) (by omega) (fun j hj => by have := hq j hj; omega) hc
    rw [qFold, ih (qAdd q e.f0 e.f1) (B + 1) (fun x hx => by rw [qAdd_length]; exact he x (List.mem_cons_of_mem _ hx)) (fun j hj => by
      rw [qAdd_length] at hj
      rw [hs j hj]
      have := hq j hj
      split <;> split <;> omega) (by omega) c (by rw [qAdd_length]; exact hc), hs c hc, cnt]
    omega
theorem good_of_cut {q : List Int} {N S : List S59} {d : Nat} (hq : q.length = d + 3) (hd : d ≤ 9) (hw : ∀ j, j < q.length → i64 (nth q j)) (h : cut d q (namesTo (d + 3)) = some (N, [1, 1, 1])) (hS : Srt N S) :
    Good ((d + 3 : Nat) : Int) S = true ∧ quidOf ((d + 3 : Nat) : Int) S = q ∧ ∀ j, j < q.length → 1 ≤ nth q j ∧ nth q j ≤ 10 := by
  obtain ⟨g1, g2, g3⟩ := cut_geo d q (namesTo (d + 3)) N _ hq (namesTo_length _) (namesTo_inc _) h
  have gv := cut_val d q (namesTo (d + 3)) N hq (namesTo_length _) (namesTo_inc _) hd hw h
  have hlen : S.length = d := by rw [hS.1.length_eq, g1]
  have hd2 : ∀ e ∈ S, IsDiag ((d + 3 : Nat) : Int) e.f0 e.f1 := by
    intro e he
    obtain ⟨⟨a1, a2⟩, ⟨u, hu, hu2⟩, ⟨v, hv, hv2⟩⟩ := g2 e (hS.1.mem_iff.1 he)
    have b1 := namesTo_mem a1
    have b2 := namesTo_mem a2
    have b3 := namesTo_mem hu
    have b4 := namesTo_mem hv
    unfold IsDiag
    omega
  have hp : S.Pairwise fun a b => ¬ Cross a.f0 a.f1 b.f0 b.f1 ∧ a ≠ b := by
    refine (hS.1.pairwise_iff ?_).2 g3
    rintro x y ⟨h1, h2⟩
    exact ⟨by unfold Cross at *; omega, fun e => h2 e.symm⟩
  have hltN : ∀ e ∈ N, e.f0 < e.f1 := by
    intro e he
    obtain ⟨_, ⟨u, _, hu⟩, _⟩ := g2 e he
    omega
  refine ⟨(good_iff _ _).2 ⟨by omega, by omega, fun j hj => ?_⟩, ?_, fun j hj => ?_⟩
  · unfold okAt
    rw [Bool.and_eq_true, Bool.and_eq_true]
    refine ⟨⟨decide_eq_true ?_, ?_⟩, ?_⟩
    · rw [rdT_nat hj]
      exact hd2 _ (List.getElem_mem hj)
    · by_cases h0 : j = 0
      · rw [decide_eq_true h0]; rfl
      · rw [decide_eq_false h0, Bool.false_or, show (j : Int) - 1 = ((j - 1 : Nat) : Int) by omega, rdT_nat hj, rdT_nat (by omega)]
        exact le_ne_less (List.pairwise_iff_getElem.1 hS.2 _ _ _ _ (by omega)) (List.pairwise_iff_getElem.1 hp _ _ _ _ (by omega)).2
    · rw [Bool.not_eq_true', List.any_eq_false]
      intro e he
      rw [decide_eq_true_eq]
      obtain ⟨i, hi, rfl⟩ := List.mem_iff_getElem.1 he
      rw [List.length_take] at hi
      rw [List.getElem_take, rdT_nat hj]
      have := (List.pairwise_iff_getElem.1 hp i j (by omega) hj (by omega)).1
      unfold Cross at *
      omega
  · apply nth_ext
    · rw [quidOf_length, hq]; omega
    · intro i hi
      rw [quidOf_length] at hi
      have h1 : ∀ j, j < (List.replicate (((d + 3 : Nat) : Int).toNat) (1 : Int)).length → nth (List.replicate (((d + 3 : Nat) : Int).toNat) (1 : Int)) j = 1 := by
        intro j hj
        rw [nth_get hj, List.getElem_replicate]
      have h2 := qFold_nth S (List.replicate (((d + 3 : Nat) : Int).toNat) (1 : Int)) 1 (fun e he => by
        have := hd2 e he
        unfold IsDiag at this
        rw [List.length_replicate]
        omega) (fun j hj => by rw [h1 j hj]; omega) (by omega) i (by rw [List.length_replicate]; exact hi)
      rw [quidOf, h2, h1 i (by rw [List.length_replicate]; exact hi), cnt_perm hS.1, gv i (by omega), namesTo_nth _ _ (by omega)]
  · have := gv j (by omega)
    have hb := cnt_bound (nth (namesTo (d + 3)) j) N hltN
    omega

def insS : List S59 → S59 → List S59
  | [], d => [d]
  | x :: l, d => if lessD x.f0 x.f1 d.f0 d.f1 = true then x :: insS l d else d :: x :: l
theorem insS_perm (d : S59) : ∀ l, (insS l d).Perm (d :: l)
  | [] => List.Perm.refl _
  | x :: l => by
    rw [insS]
    split
    · exact ((insS_perm d l).cons x).trans (List.Perm.swap ..)
    · exact List.Perm.refl _
theorem insS_sorted (d : S59) : ∀ l : List S59, l.Pairwise leD → (insS l d).Pairwise leD
  | [], _ => List.pairwise_singleton _ _
  | x :: l, h => by
    obtain ⟨h1, h2⟩ := List.pairwise_cons.1 h
    rw [insS]
    split
    · next c =>
      refine List.pairwise_cons.2 ⟨fun a ha => ?_, insS_sorted d l h2⟩
      rcases List.mem_cons.1 ((insS_perm d l).mem_iff.1 ha) with rfl | ha
      · exact less_le c
      · exact h1 a ha
    · next c =>
      have hdx : leD d x := nless_le (by simpa using c)
      refine List.pairwise_cons.2 ⟨fun a ha => ?_, h⟩
      rcases List.mem_cons.1 ha with rfl | ha
      · exact hdx
      · exact leD_trans hdx (h1 a ha)
theorem insS_length (d : S59) (l : List S59) : (insS l d).length = l.length + 1 := (insS_perm d l).length_eq
theorem poSorted_l1 (x8 : List S59) (L i : Int) (d0 d1 : Int) (r : List S59) (x3 : List S59) (hl : x3.length ≤ 1000) (K : Nat) : ∀ (dd k p : Nat), p + dd = x3.length → K + dd + 1 ≤ k →
    (∀ m, K ≤ m → spec_poSorted.l0 m (x3.take p ++ insS (x3.drop p) ⟨d0, d1⟩) x8 L (wrap64 (i + 1)) = some r) → spec_poSorted.l1 k x3 (p : Int) x8 L i d0 d1 = some r := by
  intro dd
  induction dd with
  | zero =>
    intro k p hp hk h
    obtain ⟨k, rfl⟩ : ∃ m, k = m + 1 := ⟨k - 1, by omega⟩
    simp only [spec_poSorted.l1]
    have hh := h k (by omega)
    rw [List.drop_of_length_le (by omega), insS, List.take_of_length_le (by omega)] at hh
    rw [if_neg (by omega), Option.bind_some, if_pos (by omega), if_pos (by omega), Option.bind_some, Int.toNat_natCast, List.take_of_length_le (by omega), if_pos (by simp; omega), Option.bind_some, Option.bind_some, if_pos (by simp; omega), Option.bind_some, List.drop_of_length_le (by omega), Option.bind_some, if_pos (by simp; omega), List.nil_append, List.append_nil]
    exact hh
  | succ dd ih =>
    intro k p hp hk h
    obtain ⟨k, rfl⟩ : ∃ m, k = m + 1 := ⟨k - 1, by omega⟩
    simp only [spec_poSorted.l1]
    rw [if_pos (by omega), if_pos (by omega), poLess_eq, Option.bind_some]
    cases hc : lessD (rd_T59 x3 p).f0 (rd_T59 x3 p).f1 d0 d1 with
    | true =>
      rw [if_pos rfl, wsucc (n := x3.length) (by omega) (by omega)]
      refine ih k (p + 1) (by omega) (by omega) (fun m hm => ?_)
      have hh := h m hm
      rw [rdT_drop (l := x3) (i := p) (by omega), insS, if_pos hc] at hh
      rw [List.take_succ_eq_append_getElem (by omega), List.append_assoc, ← rdT_nat (by omega)]
      exact hh
    | false =>
      have hh := h k (by omega)
      rw [rdT_drop (l := x3) (i := p) (by omega), insS, if_neg (by rw [hc]; decide), ← rdT_drop (by omega)] at hh
      have l1 : (x3.take p).length ≤ 1000 := by rw [List.length_take]; omega
      rw [if_neg (by decide), Option.bind_some, if_pos (by omega), Option.bind_some, Int.toNat_natCast, List.nil_append, if_pos (by simp; omega), Option.bind_some, Option.bind_some, if_pos (by simp; omega), Option.bind_some, Option.bind_some, if_pos (by simp; omega), List.append_assoc, List.singleton_append]
      exact hh
theorem poSorted_l0 (x8 : List S59) (hl : x8.length ≤ 100) : ∀ (dd k i : Nat) (x3 : List S59), i + dd = x8.length → 104 * dd + 1 ≤ k → Srt (x8.take i) x3 →
    ∃ S, Srt x8 S ∧ spec_poSorted.l0 k x3 x8 (x8.length : Int) (i : Int) = some S := by
  intro dd
  induction dd with
  | zero =>
    intro k i x3 hi hk hS
    obtain ⟨k, rfl⟩ : ∃ m, k = m + 1 := ⟨k - 1, by omega⟩
    simp only [spec_poSorted.l0]
    rw [if_neg (by omega)]
    rw [List.take_of_length_le (by omega)] at hS
    exact ⟨x3, hS, rfl⟩
  | succ dd ih =>
    intro k i x3 hi hk hS
    obtain ⟨k, rfl⟩ : ∃ m, k = m + 1 := ⟨k - 1, by omega⟩
    have h3 : x3.length = i := by rw [hS.1.length_eq, List.length_take]; omega
    have hS2 : Srt (x8.take (i + 1)) (insS x3 (rd_T59 x8 i)) := by
      refine ⟨(insS_perm _ _).trans ?_, insS_sorted _ _ hS.2⟩
      rw [List.take_succ_eq_append_getElem (by omega), rdT_nat (by omega)]
      exact (hS.1.cons _).trans (List.perm_append_singleton _ _).symm
    obtain ⟨S, hSS, _⟩ := ih (104 * dd + 1) (i + 1) _ (by omega) (Nat.le_refl _) hS2
    refine ⟨S, hSS, ?_⟩
    simp only [spec_poSorted.l0]
    rw [if_pos (by omega), if_pos (by omega), if_pos (by omega), ← Int.natCast_zero]
    refine poSorted_l1 x8 _ _ _ _ S x3 (by omega) (104 * dd + 1) x3.length k 0 (by omega) (by omega) (fun m hm => ?_)
    obtain ⟨S', hS', h'⟩ := ih m (i + 1) _ (by omega) hm hS2
    rw [hSS.unique hS', wsucc (n := x8.length) (by omega) (by omega), List.take_zero, List.nil_append, List.drop_zero]
    exact h'
theorem poSorted_eq {l : List S59} (hl : l.length ≤ 10) : ∃ S, Srt l S ∧ ∀ k, 2000 ≤ k → spec_poSorted.f k l = some S := by
  have h0 : ∀ k, 2000 ≤ k → ∃ S, Srt l S ∧ spec_poSorted.f k l = some S := by
    intro k hk
    unfold spec_poSorted.f
    rw [← Int.natCast_zero]
    exact poSorted_l0 l (by omega) l.length k 0 [] (by omega) (by omega) ⟨by simp, List.Pairwise.nil⟩
  obtain ⟨S, hS, _⟩ := h0 2000 (Nat.le_refl _)
  refine ⟨S, hS, fun k hk => ?_⟩
  obtain ⟨S', hS', h'⟩ := h0 k hk
  rw [hS.unique hS']
  exact h'

def inAll (lo hi : Int) (l : List Int) : Bool := l.all fun x => decide (lo ≤ x ∧ x ≤ hi)
theorem l1All_l0 (lo up : Int) (l : List Int) (hl : l.length ≤ 9223372036854775807) : ∀ (d k i : Nat), i + d = l.length → d < k → spec_l1All.l0 k lo up l (l.length : Int) (i : Int) = some (inAll lo up (l.drop i)) := by
  intro d
  induction d with
  | zero =>
    intro k i hi hk
    obtain ⟨k, rfl, _⟩ := fuel hk
    simp only [spec_l1All.l0]
    rw [if_neg (by omega), List.drop_of_length_le (by omega)]
    rfl
  | succ d ih =>
    intro k i hi hk
    obtain ⟨k, rfl, hk⟩ := fuel hk
    simp only [spec_l1All.l0]
    rw [if_pos (by omega), if_pos (by omega), if_pos (by omega), l1In_eq, Option.bind_some, wsucc (n := l.length) (by omega) hl, rd_drop (by omega)]
    by_cases hx : lo ≤ rd l i ∧ rd l i ≤ up
    · rw [decide_eq_true hx, ite_t, ih k (i + 1) (by omega) (by omega)]
      simp [inAll, hx]
    · rw [decide_eq_false hx, ite_f]
      simp [inAll]
      omega
theorem l1All_eq {l : List Int} {k : Nat} (lo hi : Int) (hl : l.length ≤ 9223372036854775807) (hk : l.length < k) : spec_l1All.f k l lo hi = some (inAll lo hi l) := by
  unfold spec_l1All.f
  exact l1All_l0 lo hi l hl l.length k 0 (by omega) hk

theorem tmod_nat (a m : Nat) : Int.tmod (a : Int) (m : Int) = ((a % m : Nat) : Int) := (Int.ofNat_tmod a m).symm
theorem bef_w {i m : Nat} (h : i < m) (hm : m ≤ 1000) : Int.tmod (wrap64 ((wrap64 ((i : Int) + (m : Int))) - 1)) (m : Int) = ((bef i m : Nat) : Int) := by
  rw [w64 (x := (i : Int) + m) (by omega) (by omega), w64 (by omega) (by omega), show (i : Int) + m - 1 = ((i + m - 1 : Nat) : Int) by omega, tmod_nat]
  rfl
theorem beh_w {i m : Nat} (h : i < m) (hm : m ≤ 1000) : Int.tmod (wrap64 ((i : Int) + 1)) (m : Int) = ((beh i m : Nat) : Int) := by
  rw [w64 (by omega) (by omega), show (i : Int) + 1 = ((i + 1 : Nat) : Int) by omega, tmod_nat]
  rfl
def firstFrom (l : List Int) : Nat → Nat → Int
  | 0, _ => -1
  | d + 1, p => if nth l p = 1 then (p : Int) else firstFrom l d (p + 1)
theorem firstFrom_spec (l : List Int) : ∀ (d p : Nat), (firstFrom l d p = -1 ∧ ∀ j, p ≤ j → j < p + d → nth l j ≠ 1) ∨ ∃ i : Nat, firstFrom l d p = i ∧ p ≤ i ∧ i < p + d ∧ nth l i = 1 ∧ ∀ j, p ≤ j → j < i → nth l j ≠ 1 := by
  intro d
  induction d with
  | zero => intro p; exact Or.inl ⟨rfl, fun j h1 h2 => by omega⟩
  | succ d ih =>
    intro p
    rw [firstFrom]
    by_cases h : nth l p = 1
    · rw [if_pos h]
      exact Or.inr ⟨p, rfl, Nat.le_refl _, by omega, h, fun j h1 h2 => by omega⟩
    · rw [if_neg h]
      rcases ih (p + 1) with ⟨h1, h2⟩ | ⟨i, h1, h2, h3, h4, h5⟩
      · refine Or.inl ⟨h1, fun j g1 g2 => ?_⟩
        by_cases e : j = p
        · rw [e]; exact h
        · exact h2 j (by omega) (by omega)
      · refine Or.inr ⟨i, h1, by omega, by omega, h4, fun j g1 g2 => ?_⟩
        by_cases e : j = p
        · rw [e]; exact h
        · exact h5 j (by omega) g2
theorem first_cases (l : List Int) : (firstFrom l l.length 0 = -1 ∧ l.findIdx? (· == 1) = none) ∨ ∃ i : Nat, firstFrom l l.length 0 = i ∧ i < l.length ∧ l.findIdx? (· == 1) = some i := by
  rcases firstFrom_spec l l.length 0 with ⟨h1, h2⟩ | ⟨i, h1, _, h3, h4, h5⟩
  · refine Or.inl ⟨h1, List.findIdx?_eq_none_iff.2 fun x hx => ?_⟩
    obtain ⟨j, hj, rfl⟩ := mem_nth.1 hx
    have := h2 j (by omega) (by omega)
    simpa using this
  · refine Or.inr ⟨i, h1, by omega, List.findIdx?_eq_some_iff_getElem.2 ⟨by omega, ?_, fun j hj => ?_⟩⟩
    · rw [← nth_get (by omega), h4]; rfl
    · rw [← nth_get (by omega)]
      have := h5 j (by omega) hj
      simpa using this
theorem find_l2 (left names : List Int) (out : List S59) (hm : left.length ≤ 1000) : ∀ (dd k p : Nat) (x8 : Int), p + dd = left.length →
    spec_poOf.l2 (k + dd) left names out x8 left (left.length : Int) (p : Int) = spec_poOf.l2 k left names out (if x8 < 0 then (if firstFrom left dd p < 0 then x8 else firstFrom left dd p) else x8) left (left.length : Int) (left.length : Int) := by
  intro dd
  induction dd with
  | zero =>
    intro k p x8 hp
    rw [firstFrom, show p = left.length by omega, Nat.add_zero]
    simp
  | succ dd ih =>
    intro k p x8 hp
    obtain ⟨q, hq⟩ : ∃ q, q = k + dd := ⟨_, rfl⟩
    rw [show k + (dd + 1) = q + 1 by omega, firstFrom]
    conv => lhs; simp only [spec_poOf.l2]
    rw [if_pos (by omega), if_pos (by omega), if_pos (by omega), rd_nth, wsucc (n := left.length) (by omega) (by omega), hq]
    by_cases h : nth left p = 1
    · rw [if_pos h, if_pos h]
      by_cases h8 : x8 < 0
      · rw [if_pos h8, if_pos h8, ih _ _ _ (by omega), if_neg (show ¬ ((p : Int) < 0) by omega), if_neg (show ¬ ((p : Int) < 0) by omega)]
      · rw [if_neg h8, if_neg h8, ih _ _ _ (by omega), if_neg h8]
    · rw [if_neg h, if_neg h, ih _ _ _ (by omega)]
theorem own_eq {l : List Int} (h : l.length ≤ 1000000) : spec_l1Own.f l = some l := by
  unfold spec_l1Own.f
  rw [Option.bind_some, if_pos (by simp; omega)]
  rfl
theorem poOf_step (left names : List Int) (out : List S59) (i k : Nat) (hi : i < left.length) (hm : 4 ≤ left.length ∧ left.length ≤ 12) (hn : names.length = left.length) (ho : out.length ≤ 1000) :
    spec_poOf.l2 (k + 2) left names out (i : Int) left (left.length : Int) (left.length : Int) =
      if nth (dec1 (dec1 left (bef i left.length)) (beh i left.length)) (bef i left.length) < 1 ∨ nth (dec1 (dec1 left (bef i left.length)) (beh i left.length)) (beh i left.length) < 1 then some ([], false)
      else spec_poOf.l1 k (stepL left i) (names.eraseIdx i) (out ++ [cutD names i]) := by
  have hb := bef_ne_beh hi (by omega)
  have j4 : ∀ (L : List Int) (b : Bool), L.length = left.length → spec_poOf.j4 (k + 1) L names out (i : Int) (bef i left.length : Nat) (beh i left.length : Nat) b = if b = true then some ([], false) else spec_poOf.l1 k (L.eraseIdx i) (names.eraseIdx i) (out ++ [cutD names i]) := by
    intro L b hL
    simp only [spec_poOf.j4]
    cases b with
    | true => rw [if_pos rfl, if_pos rfl]
    | false =>
      have e1 : ∀ a b : Int, spec_l1Least.f a b = some (min a b) := by
        intro a b
        unfold spec_l1Least.f
        split
        · rw [Int.min_eq_left (by omega)]
        · rw [Int.min_eq_right (by omega)]
      have e2 : ∀ a b : Int, spec_l1Most.f a b = some (max a b) := by
        intro a b
        unfold spec_l1Most.f
        split
        · rw [Int.max_eq_left (by omega)]
        · rw [Int.max_eq_right (by omega)]
      simp only [Bool.false_eq_true, if_false]
      rw [if_pos (by omega), if_pos (by omega), if_pos (by omega), if_pos (by omega), rd_nth, rd_nth, e1, e2, Option.bind_some, Option.bind_some, if_pos (by omega), if_pos (by omega), if_pos (by omega), Int.toNat_natCast,
        own_eq (by rw [List.length_take]; omega), Option.bind_some, wsucc (n := left.length) hi (by omega), if_pos (by omega), if_pos (by omega), Option.bind_some, Int.toNat_natCast, if_pos (by rw [List.length_take, List.length_drop]; omega), if_pos (by omega),
        own_eq (by rw [List.length_take]; omega), Option.bind_some, if_pos (by omega), Option.bind_some, if_pos (by rw [List.length_take, List.length_drop]; omega), ← List.eraseIdx_eq_take_drop_succ, ← List.eraseIdx_eq_take_drop_succ]
      unfold cutD
      rw [hn]
  rw [show k + 2 = (k + 1) + 1 by omega]
  conv => lhs; simp only [spec_poOf.l2]
  rw [if_neg (by omega), if_neg (by omega), if_neg (by omega), bef_w hi (by omega), beh_w hi (by omega), if_pos (by omega), if_pos (by omega), Option.bind_some, if_pos (by omega), if_pos (by omega), Option.bind_some]
  simp only [rd_nth, Int.toNat_natCast]
  change (if nth (dec1 (dec1 left (bef i left.length)) (beh i left.length)) (bef i left.length) < 1 then _ else _) = _
  have hL : (dec1 (dec1 left (bef i left.length)) (beh i left.length)).length = left.length := by rw [dec1_length, dec1_length]
  have jA := j4 (dec1 (dec1 left (bef i left.length)) (beh i left.length)) true hL
  have jB := j4 (dec1 (dec1 left (bef i left.length)) (beh i left.length)) (decide (nth (dec1 (dec1 left (bef i left.length)) (beh i left.length)) (beh i left.length) < 1)) hL
  by_cases c1 : nth (dec1 (dec1 left (bef i left.length)) (beh i left.length)) (bef i left.length) < 1
  · rw [if_pos c1, if_pos (Or.inl c1)]
    exact jA.trans (if_pos rfl)
  · rw [if_neg c1]
    refine jB.trans ?_
    by_cases c2 : nth (dec1 (dec1 left (bef i left.length)) (beh i left.length)) (beh i left.length) < 1
    · rw [decide_eq_true c2, if_pos rfl, if_pos (Or.inr c2)]
    · rw [decide_eq_false c2, if_neg (by decide), if_neg (by omega)]
      rfl

theorem wrap_le {x : Int} (h : i64 x) : i64 x := h
theorem upd_eq {left : List Int} {i j : Nat} (hi : i < left.length) (hm : 3 ≤ left.length) (hj : j < left.length) : nth (dec1 (dec1 left (bef i left.length)) (beh i left.length)) j = upd left i j := by
  have h := bef_ne_beh hi hm
  unfold dec1 upd
  rw [nth_set (by rw [List.length_set]; exact hj), nth_set hj, nth_set h.2.2.1, if_neg h.1]
  by_cases e1 : beh i left.length = j
  · rw [if_pos e1, if_pos (Or.inr e1.symm), e1]
  · rw [if_neg e1]
    by_cases e2 : bef i left.length = j
    · rw [if_pos e2, if_pos (Or.inl e2.symm), e2]
    · rw [if_neg e2, if_neg (by omega)]
/-- What is left at a corner is at least one, as long as the cutting comes to its end. -/
theorem step_pos {d : Nat} {left names : List Int} {i : Nat} {N : List S59} (hl : left.length = d + 4) (hn : names.length = d + 4) (hI : Inc names) (hd : d ≤ 8) (hw : ∀ j, j < left.length → i64 (nth left j)) (hi : i < left.length)
    (h : cut d (stepL left i) (names.eraseIdx i) = some (N, [1, 1, 1])) {j : Nat} (hj : j < left.length) (hji : j ≠ i) : 1 ≤ upd left i j := by
  have hin : i < names.length := by omega
  have hs : (stepL left i).length = d + 3 := by rw [stepL_length hi]; omega
  have he : (names.eraseIdx i).length = d + 3 := by rw [List.length_eraseIdx, if_pos hin]; omega
  have gg := cut_geo d (stepL left i) (names.eraseIdx i) N _ hs he (hI.erase hin) h
  have gv := cut_val d (stepL left i) (names.eraseIdx i) N hs he (hI.erase hin) (by omega) (stepL_i64 hi (by omega) hw) h (if j < i then j else j - 1) (by split <;> omega)
  have hJ : (if (if j < i then j else j - 1) < i then (if j < i then j else j - 1) else (if j < i then j else j - 1) + 1) = j := by
    by_cases c : j < i
    · rw [if_pos c, if_pos c]
    · rw [if_neg c, if_neg (by omega)]; omega
  rw [stepL_nth hi (by omega) (by split <;> omega), hJ] at gv
  have hlt : ∀ e ∈ N, e.f0 < e.f1 := by
    intro e he2
    obtain ⟨_, ⟨u, _, hu⟩, _⟩ := gg.2.1 e he2
    omega
  have := cnt_bound (nth (names.eraseIdx i) (if j < i then j else j - 1)) N hlt
  omega
theorem three {l : List Int} (h : l.length = 3) : l = [nth l 0, nth l 1, nth l 2] := by
  match l, h with
  | [a, b, c], _ => rfl
theorem poOf_l1 : ∀ (d k : Nat) (left names : List Int) (out : List S59), left.length = d + 3 → names.length = d + 3 → Inc names → d ≤ 9 → (∀ j, j < left.length → i64 (nth left j)) → out.length + d ≤ 10 → 2001 + 20 * d ≤ k →
    ∃ X, spec_poOf.l1 k left names out = some X ∧ (∀ N, cut d left names = some (N, [1, 1, 1]) → Srt (out ++ N) X.1 ∧ X.2 = true) ∧ ((∀ N, cut d left names ≠ some (N, [1, 1, 1])) → X.2 = false) := by
  intro d
  induction d with
  | zero =>
    intro k left names out hl hn hI hd hw ho hk
    obtain ⟨k, rfl⟩ : ∃ m, k = m + 1 := ⟨k - 1, by omega⟩
    obtain ⟨S, hS, hS2⟩ := poSorted_eq (l := out) (by omega)
    simp only [spec_poOf.l1]
    rw [if_neg (by omega), hS2 k (by omega), Option.bind_some, if_pos (by omega), show rd left 0 = nth left 0 from rfl, show rd left 1 = nth left 1 from rfl, show rd left 2 = nth left 2 from rfl]
    have h3 := three hl
    by_cases c0 : nth left 0 = 1
    · rw [if_pos c0, if_pos (by omega)]
      by_cases c1 : nth left 1 = 1
      · rw [if_pos c1, if_pos (by omega)]
        refine ⟨_, rfl, fun N hN => ?_, fun hN => ?_⟩
        · rw [cut] at hN
          obtain ⟨rfl, h5⟩ := Prod.mk.inj (Option.some.inj hN)
          rw [List.append_nil]
          exact ⟨hS, by rw [h5]; rfl⟩
        · by_cases c2 : nth left 2 = 1
          · rw [c0, c1, c2] at h3
            exact absurd (show cut 0 left names = some ([], [1, 1, 1]) by rw [cut, h3]) (hN [])
          · exact beq_eq_false_iff_ne.2 c2
      · rw [if_neg c1]
        refine ⟨_, rfl, fun N hN => ?_, fun hN => rfl⟩
        rw [cut] at hN
        obtain ⟨rfl, h5⟩ := Prod.mk.inj (Option.some.inj hN)
        rw [h5] at c1
        exact absurd rfl c1
    · rw [if_neg c0]
      refine ⟨_, rfl, fun N hN => ?_, fun hN => rfl⟩
      rw [cut] at hN
      obtain ⟨rfl, h5⟩ := Prod.mk.inj (Option.some.inj hN)
      rw [h5] at c0
      exact absurd rfl c0
  | succ d ih =>
    intro k left names out hl hn hI hd hw ho hk
    obtain ⟨k, rfl⟩ : ∃ m, k = m + 1 := ⟨k - 1, by omega⟩
    simp only [spec_poOf.l1]
    obtain ⟨m, hm⟩ : ∃ m, k = (m + 2) + left.length := ⟨k - left.length - 2, by omega⟩
    have hf := find_l2 left names out (by omega) left.length (m + 2) 0 (-1) (by omega)
    rw [if_pos (show (-1 : Int) < 0 by omega), Int.natCast_zero] at hf
    rw [if_pos (by omega), hm, hf]
    rcases first_cases left with ⟨h1, h2⟩ | ⟨i, h1, hi, h2⟩
    · rw [h1, if_pos (by omega)]
      refine ⟨([], false), ?_, fun N hN => ?_, fun _ => rfl⟩
      · simp only [spec_poOf.l2]
        rw [if_neg (by omega), if_pos (by omega)]
      · rw [cut, h2] at hN
        cases hN
    · rw [h1, if_neg (by omega), poOf_step left names out i m hi (by omega) (by omega) (by omega)]
      have hin : i < names.length := by omega
      have hb := bef_ne_beh hi (by omega)
      have hc : ∀ N, cut (d + 1) left names = some (N, [1, 1, 1]) → ∃ N', cut d (stepL left i) (names.eraseIdx i) = some (N', [1, 1, 1]) ∧ N = cutD names i :: N' := by
        intro N hN
        obtain ⟨i', N', _, _, h5, h6, h7⟩ := cut_some hN
        rw [h2] at h5
        obtain rfl := Option.some.inj h5
        exact ⟨N', h6, h7⟩
      rw [upd_eq hi (by omega) hb.2.1, upd_eq hi (by omega) hb.2.2.1]
      by_cases hlow : upd left i (bef i left.length) < 1 ∨ upd left i (beh i left.length) < 1
      · rw [if_pos hlow]
        refine ⟨_, rfl, fun N hN => ?_, fun _ => rfl⟩
        obtain ⟨N', h6, _⟩ := hc N hN
        have p1 := step_pos (by omega) (by omega) hI (by omega) hw hi h6 hb.2.1 hb.2.2.2.1
        have p2 := step_pos (by omega) (by omega) hI (by omega) hw hi h6 hb.2.2.1 hb.2.2.2.2
        omega
      · rw [if_neg hlow]
        obtain ⟨X, hX, hA, hB⟩ := ih m (stepL left i) (names.eraseIdx i) (out ++ [cutD names i]) (by rw [stepL_length hi]; omega) (by rw [List.length_eraseIdx, if_pos hin]; omega) (hI.erase hin) (by omega) (stepL_i64 hi (by omega) hw) (by rw [List.length_append, List.length_singleton]; omega) (by omega)
        refine ⟨X, hX, fun N hN => ?_, fun hN => hB fun N' hN' => ?_⟩
        · obtain ⟨N', h6, rfl⟩ := hc N hN
          have := hA N' h6
          rwa [List.append_assoc, List.singleton_append] at this
        · refine hN (cutD names i :: N') ?_
          rw [cut, h2]
          simp only
          rw [hN']
          rfl
theorem poOf_l0 (left : List Int) (hl : left.length ≤ 1000) : ∀ (d k i : Nat), i + d = left.length → spec_poOf.l0 (k + d + 1) left (namesTo i) (left.length : Int) (i : Int) = spec_poOf.l1 k left (namesTo left.length) [] := by
  intro d
  induction d with
  | zero =>
    intro k i hi
    simp only [spec_poOf.l0]
    rw [if_neg (by omega), show i = left.length by omega]
  | succ d ih =>
    intro k i hi
    obtain ⟨q, hq⟩ : ∃ q, q = k + d + 1 := ⟨_, rfl⟩
    rw [show k + (d + 1) + 1 = q + 1 by omega]
    simp only [spec_poOf.l0]
    rw [if_pos (by omega), if_pos (by rw [namesTo_length]; omega), wsucc (n := left.length) (by omega) (by omega), hq]
    exact ih k (i + 1) (by omega)
/-- The quiddities, by the cutting alone. -/
def isQuid (q : List Int) (S : List S59) : Prop := ∃ d N, q.length = d + 3 ∧ d ≤ 9 ∧ cut d q (namesTo (d + 3)) = some (N, [1, 1, 1]) ∧ Srt N S
theorem inAll_nth {lo hi : Int} {l : List Int} : inAll lo hi l = true ↔ ∀ j, j < l.length → lo ≤ nth l j ∧ nth l j ≤ hi := by
  unfold inAll
  rw [List.all_eq_true]
  constructor
  · intro h j hj
    have := h (nth l j) (mem_nth.2 ⟨j, hj, rfl⟩)
    simpa using this
  · intro h x hx
    obtain ⟨j, hj, rfl⟩ := mem_nth.1 hx
    have := h j hj
    simpa using this
theorem srt_ex (l : List S59) (hl : l.length ≤ 10) : ∃ S, Srt l S := by
  obtain ⟨S, hS, _⟩ := poSorted_eq hl
  exact ⟨S, hS⟩
theorem poOf_eq {q : List Int} (hq : q.length ≤ 1048576) (hw : ∀ j, j < q.length → i64 (nth q j)) {k : Nat} (hk : q.length + 2300 ≤ k) :
    ∃ X, spec_poOf.f k q = some X ∧ ((∃ S, isQuid q S) → isQuid q X.1 ∧ X.2 = true) ∧ ((¬ ∃ S, isQuid q S) → X.2 = false) := by
  unfold spec_poOf.f
  rw [poIs_eq, Option.bind_some]
  obtain ⟨k, rfl⟩ : ∃ m, k = m + 1 := ⟨k - 1, by omega⟩
  by_cases hn : 3 ≤ (q.length : Int) ∧ (q.length : Int) ≤ 12
  · obtain ⟨d, hd⟩ : ∃ d, q.length = d + 3 := ⟨q.length - 3, by omega⟩
    rw [decide_eq_true hn, ite_t, l1All_eq _ _ (by omega) (by omega), Option.bind_some]
    simp only [spec_poOf.j0]
    cases hall : inAll 1 12 q with
    | false =>
      refine ⟨([], false), rfl, fun ⟨S, d', N, h1, h2, h3, h4⟩ => ?_, fun _ => rfl⟩
      have := (good_of_cut h1 h2 hw h3 h4).2.2
      have h5 : inAll 1 12 q = true := inAll_nth.2 fun j hj => by have := this j hj; omega
      rw [hall] at h5
      cases h5
    | true =>
      rw [Bool.not_true, ite_f, own_eq (by omega), Option.bind_some]
      obtain ⟨m, hm⟩ : ∃ m, k = m + q.length + 1 := ⟨k - q.length - 1, by omega⟩
      have h0 := poOf_l0 q (by omega) q.length m 0 (by omega)
      rw [Int.natCast_zero, show namesTo 0 = [] from rfl] at h0
      rw [hm, h0]
      obtain ⟨X, hX, hA, hB⟩ := poOf_l1 d m q (namesTo q.length) [] hd (by rw [namesTo_length]; exact hd) (namesTo_inc _) (by omega) hw (by simp; omega) (by omega)
      rw [hd] at hA hB
      refine ⟨X, hX, fun ⟨S, d', N, h1, h2, h3, h4⟩ => ?_, fun hno => hB fun N hN => hno ?_⟩
      · obtain rfl : d = d' := by omega
        have := hA N h3
        rw [List.nil_append] at this
        exact ⟨⟨d, N, h1, h2, h3, this.1⟩, this.2⟩
      · have hlen := (cut_geo d q (namesTo (d + 3)) N _ hd (namesTo_length _) (namesTo_inc _) hN).1
        obtain ⟨S, hS⟩ := srt_ex N (by omega)
        exact ⟨S, d, N, hd, by omega, hN, hS⟩
  · rw [decide_eq_false hn, ite_f]
    simp only [spec_poOf.j0]
    refine ⟨([], false), rfl, fun ⟨S, d', N, h1, h2, h3, h4⟩ => ?_, fun _ => rfl⟩
    omega
theorem isQuid.unique {q : List Int} {S S' : List S59} (h : isQuid q S) (h' : isQuid q S') : S = S' := by
  obtain ⟨d, N, h1, h2, h3, h4⟩ := h
  obtain ⟨d', N', g1, g2, g3, g4⟩ := h'
  obtain rfl : d = d' := by omega
  rw [h3] at g3
  obtain ⟨rfl, _⟩ := Prod.mk.inj (Option.some.inj g3)
  exact h4.unique g4

def insR : List S59 → S59 → List S59
  | [], x => [x]
  | y :: R, x => if lessD x.f0 x.f1 y.f0 y.f1 = true then insR R x ++ [y] else (y :: R).reverse ++ [x]
theorem insR_perm (x : S59) : ∀ R, (insR R x).Perm (x :: R.reverse)
  | [] => List.Perm.refl _
  | y :: R => by
    rw [insR, List.reverse_cons]
    split
    · exact (insR_perm x R).append_right [y]
    · exact List.perm_append_singleton _ _
theorem insR_sorted (x : S59) : ∀ R : List S59, R.reverse.Pairwise leD → (insR R x).Pairwise leD
  | [], _ => List.pairwise_singleton _ _
  | y :: R, h => by
    rw [List.reverse_cons] at h
    obtain ⟨h1, _, h2⟩ := List.pairwise_append.1 h
    rw [insR, List.reverse_cons]
    split
    · next c =>
      refine List.pairwise_append.2 ⟨insR_sorted x R h1, List.pairwise_singleton _ _, fun a ha b hb => ?_⟩
      obtain rfl := List.mem_singleton.1 hb
      rcases List.mem_cons.1 ((insR_perm x R).mem_iff.1 ha) with rfl | ha
      · exact less_le c
      · exact h2 a ha _ (List.mem_singleton.2 rfl)
    · next c =>
      have hyx : leD y x := nless_le (by simpa using c)
      refine List.pairwise_append.2 ⟨h, List.pairwise_singleton _ _, fun a ha b hb => ?_⟩
      obtain rfl := List.mem_singleton.1 hb
      rcases List.mem_append.1 ha with ha | ha
      · exact leD_trans (h2 a ha y (List.mem_singleton.2 rfl)) hyx
      · obtain rfl := List.mem_singleton.1 ha; exact hyx
theorem swap_set (A : List S59) (y x : S59) (Q : List S59) : ((A ++ y :: x :: Q).set (A.length + 1) y).set A.length x = A ++ x :: y :: Q := by
  induction A with
  | nil => rfl
  | cons a A ih => simp only [List.cons_append, List.length_cons, List.set_cons_succ, ih]
theorem rdT_mid (A : List S59) (x : S59) (Q : List S59) : rd_T59 (A ++ x :: Q) (A.length : Int) = x := by
  rw [rdT_nat (by simp), List.getElem_append_right (Nat.le_refl _)]
  simp
theorem ins_l1 (L i : Int) (x : S59) (r : List S59) (K : Nat) : ∀ (R Q : List S59) (k : Nat), R.length ≤ 1000 → K + R.length + 6 ≤ k →
    (∀ m, K ≤ m → impl_Diagonal__at_impl_compareDiagonals_102.l0 m (insR R x ++ Q) 0 L (wrap64 (i + 1)) = some r) → impl_Diagonal__at_impl_compareDiagonals_102.l1 k (R.reverse ++ x :: Q) 0 L i (R.length : Int) = some r := by
  intro R
  induction R with
  | nil =>
    intro Q k _ hk h
    obtain ⟨k, rfl⟩ : ∃ m, k = m + 1 := ⟨k - 1, by omega⟩
    simp only [impl_Diagonal__at_impl_compareDiagonals_102.l1]
    rw [if_neg (by simp)]
    exact h k (by omega)
  | cons y R ih =>
    intro Q k hR hk h
    obtain ⟨k, rfl⟩ : ∃ m, k = m + 1 := ⟨k - 1, by omega⟩
    rw [List.length_cons] at hR hk
    have hw : wrap64 (((R.length + 1 : Nat) : Int) - 1) = (R.length : Int) := by rw [w64 (by omega) (by omega)]; omega
    have eL : ((y :: R).reverse ++ x :: Q) = R.reverse ++ y :: x :: Q := by rw [List.reverse_cons, List.append_assoc]; rfl
    have r1 : rd_T59 (R.reverse ++ y :: x :: Q) ((R.length + 1 : Nat) : Int) = x := by
      have := rdT_mid (R.reverse ++ [y]) x Q
      rw [List.length_append, List.length_reverse, List.append_assoc] at this
      exact this
    have r2 : rd_T59 (R.reverse ++ y :: x :: Q) (R.length : Int) = y := by
      have := rdT_mid R.reverse y (x :: Q)
      rwa [List.length_reverse] at this
    obtain ⟨t, ht, _, ht2, _⟩ := cmpD_eq (k := k) (by omega) x.f0 x.f1 y.f0 y.f1
    have ll : ((R.reverse ++ y :: x :: Q).length : Int) = R.length + (Q.length + 2) := by simp; omega
    rw [eL, List.length_cons]
    simp only [impl_Diagonal__at_impl_compareDiagonals_102.l1]
    rw [hw, r1, r2, ht, Option.bind_some, if_pos (by omega), if_pos (by omega), if_pos (by omega), if_pos (by omega), if_pos (by omega)]
    by_cases hc : t < 0
    · have sw := swap_set R.reverse y x Q
      rw [List.length_reverse] at sw
      rw [if_pos hc, Int.toNat_natCast, Int.toNat_natCast, sw]
      refine ih (y :: Q) k (by omega) (by omega) (fun m hm => ?_)
      have hh := h m hm
      rw [insR, if_pos (ht2.1 hc), List.append_assoc, List.singleton_append] at hh
      exact hh
    · rw [if_neg hc]
      have hh := h k (by omega)
      rw [insR, if_neg (fun e => hc (ht2.2 e)), List.append_assoc, List.singleton_append, eL] at hh
      exact hh
theorem ins_l0 (l : List S59) (hl : l.length ≤ 100) : ∀ (Q : List S59) (k : Nat) (A : List S59), A.length + Q.length = l.length → 110 * Q.length + 1 ≤ k → A.Pairwise leD → (A ++ Q).Perm l →
    ∃ S, Srt l S ∧ impl_Diagonal__at_impl_compareDiagonals_102.l0 k (A ++ Q) 0 (l.length : Int) (A.length : Int) = some S := by
  intro Q
  induction Q with
  | nil =>
    intro k A hA hk hS hP
    obtain ⟨k, rfl⟩ : ∃ m, k = m + 1 := ⟨k - 1, by omega⟩
    simp only [impl_Diagonal__at_impl_compareDiagonals_102.l0]
    rw [List.length_nil] at hA
    rw [if_neg (by omega), List.append_nil]
    rw [List.append_nil] at hP
    exact ⟨A, ⟨hP, hS⟩, rfl⟩
  | cons x Q ih =>
    intro k A hA hk hS hP
    obtain ⟨k, rfl⟩ : ∃ m, k = m + 1 := ⟨k - 1, by omega⟩
    rw [List.length_cons] at hA hk
    have hp := insR_perm x A.reverse
    rw [List.reverse_reverse] at hp
    have hs := insR_sorted x A.reverse (by rw [List.reverse_reverse]; exact hS)
    have hlen : (insR A.reverse x).length = A.length + 1 := by rw [hp.length_eq]; rfl
    have hP2 : (insR A.reverse x ++ Q).Perm l := by
      refine List.Perm.trans ?_ hP
      refine (hp.append_right Q).trans ?_
      exact List.perm_middle.symm
    obtain ⟨S, hSS, _⟩ := ih (110 * Q.length + 1) (insR A.reverse x) (by omega) (Nat.le_refl _) hs hP2
    refine ⟨S, hSS, ?_⟩
    simp only [impl_Diagonal__at_impl_compareDiagonals_102.l0]
    rw [if_pos (by omega)]
    have h1 := ins_l1 (l.length : Int) (A.length : Int) x S (110 * Q.length + 1) A.reverse Q k (by rw [List.length_reverse]; omega) (by rw [List.length_reverse]; omega) (fun m hm => by
      obtain ⟨S', hS', h'⟩ := ih m (insR A.reverse x) (by omega) hm hs hP2
      rw [hSS.unique hS', wsucc (n := l.length) (by omega) (by omega), ← hlen]
      exact h')
    rw [List.reverse_reverse, List.length_reverse] at h1
    exact h1
theorem bits_len_fin : ∀ i : Fin 13, (bits_Len.f 5 (IntKind.u64.wrap ((i : Nat) : Int))).isSome = true := by decide +kernel
theorem bits_len_some {i : Nat} (hi : i ≤ 12) : ∀ k, ∃ t, bits_Len.f (k + 5) (IntKind.u64.wrap (i : Int)) = some t := by
  intro k
  induction k with
  | zero =>
    have := bits_len_fin ⟨i, by omega⟩
    exact Option.isSome_iff_exists.1 this
  | succ k ih =>
    obtain ⟨t, ht⟩ := ih
    exact ⟨t, by rw [show k + 1 + 5 = (k + 5) + 1 by omega]; exact bits_Len.mono _ _ _ ht⟩
theorem sortFunc_eq {l : List S59} (hl : l.length ≤ 10) : ∃ S, Srt l S ∧ ∀ k, 2000 ≤ k → impl_Diagonal__at_impl_compareDiagonals_88.f k l = some S := by
  have h0 : ∀ k, 2000 ≤ k → ∃ S, Srt l S ∧ impl_Diagonal__at_impl_compareDiagonals_88.f k l = some S := by
    intro k hk
    obtain ⟨t, ht⟩ := bits_len_some (i := l.length) (by omega) (k - 5)
    rw [show k - 5 + 5 = k by omega] at ht
    obtain ⟨S, hS, h1⟩ : ∃ S, Srt l S ∧ impl_Diagonal__at_impl_compareDiagonals_102.f (k - 1) l 0 (l.length : Int) = some S := by
      unfold impl_Diagonal__at_impl_compareDiagonals_102.f
      rw [w64 (x := 0 + 1) (by omega) (by omega)]
      cases l with
      | nil =>
        obtain ⟨m, hm⟩ : ∃ m, k - 1 = m + 1 := ⟨k - 2, by omega⟩
        rw [hm]
        exact ⟨[], ⟨List.Perm.refl _, List.Pairwise.nil⟩, by simp only [impl_Diagonal__at_impl_compareDiagonals_102.l0]; rw [if_neg (by simp)]⟩
      | cons x Q =>
        rw [List.length_cons] at hl
        exact ins_l0 (x :: Q) (by simp; omega) Q (k - 1) [x] (by simp; omega) (by omega) (List.pairwise_singleton _ _) (List.Perm.refl _)
    refine ⟨S, hS, ?_⟩
    unfold impl_Diagonal__at_impl_compareDiagonals_88.f impl_Diagonal__at_impl_compareDiagonals_94.f
    obtain ⟨m, hm⟩ : ∃ m, k = m + 1 := ⟨k - 1, by omega⟩
    rw [ht, Option.bind_some]
    subst hm
    rw [Nat.add_sub_cancel] at h1
    simp only [impl_Diagonal__at_impl_compareDiagonals_94.l0]
    rw [w64 (x := (l.length : Int) - 0) (by omega) (by omega), if_pos (by omega), h1]
    rfl
  obtain ⟨S, hS, _⟩ := h0 2000 (Nat.le_refl _)
  refine ⟨S, hS, fun k hk => ?_⟩
  obtain ⟨S', hS', h'⟩ := h0 k hk
  rw [hS.unique hS']
  exact h'

theorem index_l0 (l : List Int) (hl : l.length ≤ 1000000) : ∀ (d k p : Nat), p + d = l.length → d < k → slices_Index_int_int.l0 k l 1 (l.length : Int) (p : Int) = some (firstFrom l d p) := by
  intro d
  induction d with
  | zero =>
    intro k p hp hk
    obtain ⟨k, rfl, _⟩ := fuel hk
    simp only [slices_Index_int_int.l0, firstFrom]
    rw [if_neg (by omega)]
  | succ d ih =>
    intro k p hp hk
    obtain ⟨k, rfl, hk⟩ := fuel hk
    simp only [slices_Index_int_int.l0, firstFrom]
    rw [if_pos (by omega), if_pos (by omega), if_pos (by omega), rd_nth, wsucc (n := l.length) (by omega) (by omega)]
    by_cases h : nth l p = 1
    · rw [if_pos h.symm, if_pos h]
    · rw [if_neg (fun e => h e.symm), if_neg h]
      exact ih k (p + 1) (by omega) (by omega)
theorem index_eq {l : List Int} (hl : l.length ≤ 1000000) {k : Nat} (hk : l.length < k) : slices_Index_int_int.f k l 1 = some (firstFrom l l.length 0) := by
  unfold slices_Index_int_int.f
  rw [← Int.natCast_zero]
  exact index_l0 l hl l.length k 0 (by omega) hk
theorem equal_l0 (a b : List Int) (hl : a.length ≤ 1000000) (hb : a.length = b.length) : ∀ (d k p : Nat), p + d = a.length → d < k → slices_Equal_int_int.l0 k a b (a.length : Int) (p : Int) = some (decide (a.drop p = b.drop p)) := by
  intro d
  induction d with
  | zero =>
    intro k p hp hk
    obtain ⟨k, rfl, _⟩ := fuel hk
    simp only [slices_Equal_int_int.l0]
    rw [if_neg (by omega), List.drop_of_length_le (by omega), List.drop_of_length_le (by omega)]
    rfl
  | succ d ih =>
    intro k p hp hk
    obtain ⟨k, rfl, hk⟩ := fuel hk
    simp only [slices_Equal_int_int.l0]
    rw [if_pos (by omega), if_pos (by omega), if_pos (by omega), if_pos (by omega), wsucc (n := a.length) (by omega) (by omega), rd_drop (l := a) (i := p) (by omega), rd_drop (l := b) (i := p) (by omega)]
    by_cases h : rd a p = rd b p
    · rw [if_pos h, ih k (p + 1) (by omega) (by omega)]
      exact some_d (by rw [h]; simp)
    · rw [if_neg h]
      exact some_f (by intro e; exact h (List.cons.inj e).1)
theorem equal_eq {a b : List Int} (hl : a.length ≤ 1000000) {k : Nat} (hk : a.length < k) : slices_Equal_int_int.f k a b = some (decide (a = b)) := by
  unfold slices_Equal_int_int.f
  by_cases h : a.length = b.length
  · rw [if_pos (by omega), ← Int.natCast_zero, equal_l0 a b hl h a.length k 0 (by omega) hk]
    rfl
  · rw [if_neg (by omega)]
    exact some_f (fun e => h (by rw [e]))
theorem mn_eq (a b : Int) : mn a b = min a b := by
  unfold mn
  split
  · rw [Int.min_eq_right (by omega)]
  · rw [Int.min_eq_left (by omega)]
theorem mx_eq (a b : Int) : mx a b = max a b := by
  unfold mx
  split
  · rw [Int.max_eq_right (by omega)]
  · rw [Int.max_eq_left (by omega)]
theorem delete_eq {l : List Int} {i : Nat} (h : i < l.length) (hl : l.length ≤ 1000) : slices_Delete_int_int.f l (i : Int) (wrap64 ((i : Int) + 1)) = some (l.eraseIdx i) := by
  unfold slices_Delete_int_int.f
  rw [w64 (by omega) (by omega), if_pos ⟨by omega, rfl⟩, Int.toNat_natCast]
theorem implTriang_l1 (q : List Int) (hq : 3 ≤ q.length ∧ q.length ≤ 12) : ∀ (d k : Nat) (left names : List Int) (out : List S59), left.length = d + 3 → names.length = d + 3 → Inc names → d ≤ 9 → out.length + d = q.length - 3 → 2400 + 20 * d ≤ k →
    (∀ N S, cut d left names = some (N, [1, 1, 1]) → Srt (out ++ N) S → Good (q.length : Int) S = true ∧ quidOf (q.length : Int) S = q) →
    ((∃ N S, cut d left names = some (N, [1, 1, 1]) ∧ Srt (out ++ N) S ∧ impl_triangulation.l1 k q left names out (left.length : Int) = some (S, true)) ∨
      ((∀ N, cut d left names ≠ some (N, [1, 1, 1])) ∧ impl_triangulation.l1 k q left names out (left.length : Int) = some ([], false))) := by
  intro d
  induction d with
  | zero =>
    intro k left names out hl hn hI hd ho hk hfin
    obtain ⟨k, rfl⟩ : ∃ m, k = m + 1 := ⟨k - 1, by omega⟩
    obtain ⟨S, hS, hS2⟩ := sortFunc_eq (l := out) (by omega)
    simp only [impl_triangulation.l1]
    rw [if_neg (by omega), hS2 k (by omega), Option.bind_some, equal_eq (by omega) (by omega), Option.bind_some]
    by_cases c : left = [1, 1, 1]
    · have hc : cut 0 left names = some ([], [1, 1, 1]) := by rw [cut, c]
      obtain ⟨h1, h2⟩ := hfin [] S hc (by rw [List.append_nil]; exact hS)
      have hlen : S.length ≤ 10 := by rw [hS.1.length_eq]; omega
      refine Or.inl ⟨[], S, hc, by rw [List.append_nil]; exact hS, ?_⟩
      rw [decide_eq_true c, if_pos rfl, implTri_eq _ _ (by omega) (by omega), h1, Option.bind_some, if_pos rfl, implQuid_eq (by omega) (by omega) (good_inR h1) (by omega), Option.bind_some, h2, equal_eq (by omega) (by omega), Option.bind_some, decide_eq_true rfl, if_pos rfl]
    · refine Or.inr ⟨fun N hN => ?_, ?_⟩
      · rw [cut] at hN
        exact c (Prod.mk.inj (Option.some.inj hN)).2
      · rw [decide_eq_false c, if_neg (by decide)]
  | succ d ih =>
    intro k left names out hl hn hI hd ho hk hfin
    obtain ⟨k, rfl⟩ : ∃ m, k = m + 1 := ⟨k - 1, by omega⟩
    simp only [impl_triangulation.l1]
    rw [if_pos (by omega), index_eq (by omega) (by omega), Option.bind_some]
    rcases first_cases left with ⟨h1, h2⟩ | ⟨i, h1, hi, h2⟩
    · rw [h1, if_pos (by omega)]
      refine Or.inr ⟨fun N hN => ?_, rfl⟩
      rw [cut, h2] at hN
      cases hN
    · have hin : i < names.length := by omega
      have hb := bef_ne_beh hi (by omega)
      have e1 : left.set (bef i left.length) (wrap64 (nth left (bef i left.length) - 1)) = dec1 left (bef i left.length) := rfl
      have e2 : ∀ L : List Int, L.set (beh i left.length) (wrap64 (nth L (beh i left.length) - 1)) = dec1 L (beh i left.length) := fun _ => rfl
      have hLen : (dec1 (dec1 left (bef i left.length)) (beh i left.length)).length = left.length := by rw [dec1_length, dec1_length]
      have e3 : (⟨mn (nth names (bef i left.length)) (nth names (beh i left.length)), mx (nth names (bef i left.length)) (nth names (beh i left.length))⟩ : S59) = cutD names i := by
        unfold cutD
        rw [mn_eq, mx_eq, show names.length = left.length by omega]
      rw [h1, if_neg (by omega), if_neg (by omega), bef_w hi (by omega), beh_w hi (by omega), if_pos (by omega), if_pos (by omega), Option.bind_some, if_pos (by omega), if_pos (by omega), if_pos (by omega), if_pos (by omega), if_pos (by omega)]
      simp only [rd_nth, Int.toNat_natCast]
      rw [e1, e2, delete_eq (by omega) (by omega), Option.bind_some, delete_eq hin (by omega), Option.bind_some, e3, w64 (x := (left.length : Int) - 1) (by omega) (by omega)]
      have hs : (stepL left i).length = left.length - 1 := stepL_length hi
      have hx := ih k (stepL left i) (names.eraseIdx i) (out ++ [cutD names i]) (by omega) (by rw [List.length_eraseIdx, if_pos hin]; omega) (hI.erase hin) (by omega) (by rw [List.length_append, List.length_singleton]; omega) (by omega) (fun N S hN hS => hfin (cutD names i :: N) S (by rw [cut, h2]; simp only; rw [hN]; rfl) (by rw [List.append_assoc, List.singleton_append] at hS; exact hS))
      rw [show (left.length : Int) - 1 = ((stepL left i).length : Int) by omega]
      rcases hx with ⟨N, S, g1, g2, g3⟩ | ⟨g1, g2⟩
      · refine Or.inl ⟨cutD names i :: N, S, by rw [cut, h2]; simp only; rw [g1]; rfl, by rw [List.append_assoc, List.singleton_append] at g2; exact g2, g3⟩
      · refine Or.inr ⟨fun N hN => ?_, g2⟩
        obtain ⟨i', N', _, _, h5, h6, h7⟩ := cut_some hN
        rw [h2] at h5
        obtain rfl := Option.some.inj h5
        exact g1 N' h6
theorem implTriang_l0 (q left : List Int) (hl : q.length = left.length ∧ left.length ≤ 1000) : ∀ (d k i : Nat), i + d = left.length → impl_triangulation.l0 (k + d + 1) q left (namesTo i) [] (left.length : Int) (i : Int) = impl_triangulation.l1 k q left (namesTo left.length) [] (left.length : Int) := by
  intro d
  induction d with
  | zero =>
    intro k i hi
    simp only [impl_triangulation.l0]
    rw [if_neg (by omega), show i = left.length by omega]
  | succ d ih =>
    intro k i hi
    obtain ⟨z, hz⟩ : ∃ z, z = k + d + 1 := ⟨_, rfl⟩
    rw [show k + (d + 1) + 1 = z + 1 by omega]
    simp only [impl_triangulation.l0]
    rw [if_pos (by omega), if_pos (by rw [namesTo_length]; omega), wsucc (n := left.length) (by omega) (by omega), hz]
    exact ih k (i + 1) (by omega)
theorem implTriang_eq {q : List Int} (hw : ∀ j, j < q.length → i64 (nth q j)) {k : Nat} (hk : 2700 ≤ k) :
    (∃ S, isQuid q S ∧ impl_triangulation.f k q = some (S, true)) ∨ ((¬ ∃ S, isQuid q S) ∧ impl_triangulation.f k q = some ([], false)) := by
  unfold impl_triangulation.f
  rw [isPolygon_eq, Option.bind_some]
  by_cases hn : 3 ≤ (q.length : Int) ∧ (q.length : Int) ≤ 12
  · obtain ⟨d, hd⟩ : ∃ d, q.length = d + 3 := ⟨q.length - 3, by omega⟩
    rw [decide_eq_true hn, ite_t]
    unfold slices_Clone_int_int.f
    rw [if_pos (by omega), Option.bind_some]
    obtain ⟨m, hm⟩ : ∃ m, k = m + q.length + 1 := ⟨k - q.length - 1, by omega⟩
    have h0 := implTriang_l0 q q ⟨rfl, by omega⟩ q.length m 0 (by omega)
    rw [Int.natCast_zero, show namesTo 0 = [] from rfl] at h0
    rw [hm, h0]
    have hx := implTriang_l1 q (by omega) d m q (namesTo q.length) [] hd (by rw [namesTo_length]; exact hd) (namesTo_inc _) (by omega) (by simp; omega) (by omega) (fun N S hN hS => by
      rw [List.nil_append] at hS
      rw [hd] at hN
      have g := good_of_cut hd (by omega) hw hN hS
      rw [hd]
      exact ⟨g.1, g.2.1⟩)
    rw [hd] at hx
    rcases hx with ⟨N, S, g1, g2, g3⟩ | ⟨g1, g2⟩
    · refine Or.inl ⟨S, ⟨d, N, hd, by omega, g1, by rw [List.nil_append] at g2; exact g2⟩, ?_⟩
      rw [hd]
      exact g3
    · refine Or.inr ⟨fun ⟨S, d', N, h1, h2, h3, h4⟩ => ?_, ?_⟩
      · obtain rfl : d = d' := by omega
        exact g1 N h3
      · rw [hd]
        exact g2
  · rw [decide_eq_false hn, ite_f]
    refine Or.inr ⟨fun ⟨S, d', N, h1, h2, h3, h4⟩ => ?_, rfl⟩
    omega
theorem wf_nth {l : List Int} (h : ∀ x ∈ l, (Lit.int .i64 x).wf = true) : ∀ j, j < l.length → i64 (nth l j) := fun j hj => wf_i64 (h _ (mem_nth.2 ⟨j, hj, rfl⟩))

theorem isQuid_vals {l : List Int} (hw : ∀ j, j < l.length → i64 (nth l j)) (h : ∃ S, isQuid l S) : (3 ≤ l.length ∧ l.length ≤ 12) ∧ ∀ j, j < l.length → 1 ≤ nth l j ∧ nth l j ≤ 10 := by
  obtain ⟨S, d, N, h1, h2, h3, h4⟩ := h
  exact ⟨by omega, (good_of_cut h1 h2 hw h3 h4).2.2⟩
theorem isq (l : List Int) (hl : l.length ≤ 1048576) (hw : ∀ j, j < l.length → i64 (nth l j)) : ∃ b, (b = true → (3 ≤ l.length ∧ l.length ≤ 12) ∧ ∀ j, j < l.length → 1 ≤ nth l j ∧ nth l j ≤ 10) ∧ ∀ k, l.length + 2800 ≤ k → spec_IsQuiddity.f k l = some b ∧ impl_IsQuiddity.f k l = some b := by
  by_cases h : ∃ S, isQuid l S
  · refine ⟨true, fun _ => isQuid_vals hw h, fun k hk => ?_⟩
    unfold spec_IsQuiddity.f impl_IsQuiddity.f
    obtain ⟨X, h1, h2, _⟩ := poOf_eq hl hw (k := k) (by omega)
    rcases implTriang_eq hw (k := k) (by omega) with ⟨S, g1, g2⟩ | ⟨g1, g2⟩
    · rw [h1, g2, Option.bind_some, Option.bind_some, (h2 h).2]
      exact ⟨rfl, rfl⟩
    · exact absurd h g1
  · refine ⟨false, (fun e => absurd e (by decide)), fun k hk => ?_⟩
    unfold spec_IsQuiddity.f impl_IsQuiddity.f
    obtain ⟨X, h1, _, h2⟩ := poOf_eq hl hw (k := k) (by omega)
    rcases implTriang_eq hw (k := k) (by omega) with ⟨S, g1, g2⟩ | ⟨g1, g2⟩
    · exact absurd ⟨S, g1⟩ h
    · rw [h1, g2, Option.bind_some, Option.bind_some, h2 h]
      exact ⟨rfl, rfl⟩

theorem idx_mod {x n : Int} (hn : 3 ≤ n ∧ n ≤ 12) : Int.tmod (wrap64 (Int.tmod x n + n)) n = x % n ∧ 0 ≤ x % n ∧ x % n < n := by
  have h0 := Int.emod_nonneg x (show n ≠ 0 by omega)
  have h1 := Int.emod_lt_of_pos x (show 0 < n by omega)
  refine ⟨?_, h0, h1⟩
  by_cases hx : 0 ≤ x
  · rw [Int.tmod_eq_emod_of_nonneg hx, w64 (by omega) (by omega), Int.tmod_eq_emod_of_nonneg (by omega), Int.add_emod_right, Int.emod_emod_of_dvd _ (Int.dvd_refl n)]
  · have e1 : Int.tmod x n = -((-x) % n) := by
      rw [← Int.tmod_eq_emod_of_nonneg (show 0 ≤ -x by omega), Int.neg_tmod, Int.neg_neg]
    have g0 := Int.emod_nonneg (-x) (show n ≠ 0 by omega)
    have g1 := Int.emod_lt_of_pos (-x) (show 0 < n by omega)
    have g2 := Int.mul_ediv_add_emod (-x) n
    rw [e1, w64 (by omega) (by omega), Int.tmod_eq_emod_of_nonneg (by omega), show -(-x % n) + n = x + n * (-x / n + 1) by rw [Int.mul_add, Int.mul_one]; omega, Int.add_mul_emod_self_left]
theorem modulo_eq {x n : Int} (hn : 3 ≤ n ∧ n ≤ 12) : impl_modulo.f x n = some (x % n) := by
  unfold impl_modulo.f
  rw [if_neg (by omega), (idx_mod hn).1]
def qc (q : List Int) (x : Int) : Int := rd q (x % (q.length : Int))
/-- The entries of i and those behind it. -/
def ent (q : List Int) (i : Int) : Nat → Int
  | 0 => 0
  | 1 => 1
  | t + 2 => wrap64 (wrap64 (qc q (i + ((t + 1 : Nat) : Int)) * ent q i (t + 1)) - ent q i t)
def entL (q : List Int) (i : Int) : Nat → List Int
  | 0 => []
  | m + 1 => entL q i m ++ [ent q i m]
theorem entL_length (q : List Int) (i : Int) : ∀ m, (entL q i m).length = m
  | 0 => rfl
  | m + 1 => by rw [entL, List.length_append, entL_length q i m]; rfl
theorem entL_nth (q : List Int) (i : Int) : ∀ m j, j < m → nth (entL q i m) j = ent q i j
  | m + 1, j, h => by
    rw [entL]
    by_cases c : j < m
    · have := entL_nth q i m j c
      rw [nth_get (by rw [List.length_append, entL_length]; omega), List.getElem_append_left (by rw [entL_length]; exact c), ← nth_get]
      exact this
    · obtain rfl : j = m := by omega
      rw [nth_get (by rw [List.length_append, entL_length]; simp), List.getElem_append_right (by rw [entL_length]; exact Nat.le_refl _)]
      simp
theorem frEntry_l0 (q : List Int) (hn : 3 ≤ (q.length : Int) ∧ (q.length : Int) ≤ 12) (i : Int) (hi : -2000 ≤ i ∧ i ≤ 2000) (T : Nat) (hT : T ≤ 100) : ∀ (d k t : Nat), t + 1 + d = T → d < k →
    spec_frEntry.l0 k q (i + (T : Int)) (q.length : Int) (ent q i t) (ent q i (t + 1)) (i + ((t + 1 : Nat) : Int)) = some (ent q i T) := by
  intro d
  induction d with
  | zero =>
    intro k t ht hk
    obtain ⟨k, rfl, _⟩ := fuel hk
    simp only [spec_frEntry.l0]
    rw [if_neg (by omega), show T = t + 1 by omega]
  | succ d ih =>
    intro k t ht hk
    obtain ⟨k, rfl, hk⟩ := fuel hk
    have hm := idx_mod (x := i + ((t + 1 : Nat) : Int)) hn
    simp only [spec_frEntry.l0]
    rw [if_pos (by omega), if_neg (by omega), hm.1, if_pos hm.2.1, if_pos hm.2.2, w64 (x := i + ((t + 1 : Nat) : Int) + 1) (by omega) (by omega), show i + ((t + 1 : Nat) : Int) + 1 = i + ((t + 1 + 1 : Nat) : Int) by omega]
    exact ih k (t + 1) (by omega) (by omega)
theorem frEntry_eq {q : List Int} (hn : 3 ≤ (q.length : Int) ∧ (q.length : Int) ≤ 12) {i : Int} (hi : -2000 ≤ i ∧ i ≤ 2000) {T : Nat} (hT : T ≤ 100) {k : Nat} (hk : T + 1 < k) : spec_frEntry.f k q i (i + (T : Int)) = some (ent q i T) := by
  unfold spec_frEntry.f
  obtain ⟨k, rfl⟩ : ∃ m, k = m + 1 := ⟨k - 1, by omega⟩
  cases T with
  | zero =>
    simp only [spec_frEntry.l0]
    rw [if_neg (by omega)]
    rfl
  | succ T =>
    have hm := idx_mod (x := i) hn
    simp only [spec_frEntry.l0]
    rw [if_pos (by omega), if_neg (by omega), hm.1, if_pos hm.2.1, if_pos hm.2.2, Int.mul_zero, show wrap64 (wrap64 0 - -1) = 1 by rw [w64 (x := 0) (by omega) (by omega), w64 (by omega) (by omega)]; rfl, w64 (x := i + 1) (by omega) (by omega)]
    exact frEntry_l0 q hn i hi (T + 1) hT T k 0 (by omega) (by omega)
theorem entries_l0 (q : List Int) (hn : 3 ≤ (q.length : Int) ∧ (q.length : Int) ≤ 12) (i : Int) (hi : -2000 ≤ i ∧ i ≤ 2000) : ∀ (d k t : Nat), t + 1 + d = q.length → d < k →
    impl_entries.l0 k q i (q.length : Int) (entL q i (t + 2)) ((t + 1 : Nat) : Int) = some (entL q i (q.length + 1)) := by
  intro d
  induction d with
  | zero =>
    intro k t ht hk
    obtain ⟨k, rfl, _⟩ := fuel hk
    simp only [impl_entries.l0]
    rw [if_neg (by omega), show q.length + 1 = t + 2 by omega]
  | succ d ih =>
    intro k t ht hk
    obtain ⟨k, rfl, hk⟩ := fuel hk
    have hm := idx_mod (x := i + ((t + 1 : Nat) : Int)) hn
    have hl := entL_length q i (t + 2)
    simp only [impl_entries.l0]
    rw [if_pos (by omega), w64 (x := i + ((t + 1 : Nat) : Int)) (by omega) (by omega), modulo_eq hn, Option.bind_some, if_pos hm.2.1, if_pos hm.2.2, if_pos (by omega), if_pos (by omega), w64 (x := ((t + 1 : Nat) : Int) - 1) (by omega) (by omega), if_pos (by omega), if_pos (by omega), if_pos (by omega),
      show ((t + 1 : Nat) : Int) - 1 = ((t : Nat) : Int) by omega, rd_nth, rd_nth, entL_nth q i (t + 2) (t + 1) (by omega), entL_nth q i (t + 2) t (by omega), w64 (x := ((t + 1 : Nat) : Int) + 1) (by omega) (by omega), show ((t + 1 : Nat) : Int) + 1 = ((t + 1 + 1 : Nat) : Int) by omega]
    exact ih k (t + 1) (by omega) (by omega)
theorem entries_eq {q : List Int} (hn : 3 ≤ (q.length : Int) ∧ (q.length : Int) ≤ 12) {i : Int} (hi : -2000 ≤ i ∧ i ≤ 2000) {k : Nat} (hk : 12 < k) : impl_entries.f k q i = some (entL q i (q.length + 1)) := by
  unfold impl_entries.f
  exact entries_l0 q hn i hi (q.length - 1) k 0 (by omega) (by omega)
theorem entL_rd {q : List Int} {i x : Int} {m : Nat} (h0 : 0 ≤ x) (h1 : x < m) : rd (entL q i m) x = ent q i x.toNat := by
  have := entL_nth q i m x.toNat (by omega)
  exact this
theorem toIntS_l0 (l : List Int) (hl : l.length ≤ 9223372036854775807) : ∀ (d k i : Nat) (m : List Int), i + d = l.length → d < k → m.length = l.length → m.take i = l.take i →
    laws_toIntS.l0 k l m (i : Int) = some l := by
  intro d
  induction d with
  | zero =>
    intro k i m hi hk hm ht
    obtain ⟨k, rfl, _⟩ := fuel hk
    simp only [laws_toIntS.l0]
    rw [if_neg (by omega)]
    rw [List.take_of_length_le (by omega), List.take_of_length_le (by omega)] at ht
    rw [ht]
  | succ d ih =>
    intro k i m hi hk hm ht
    obtain ⟨k, rfl, hk⟩ := fuel hk
    simp only [laws_toIntS.l0]
    rw [if_pos (by omega), if_pos (by omega), if_pos (by omega), wsucc (n := l.length) (by omega) hl, Int.toNat_natCast]
    refine ih k (i + 1) _ (by omega) (by omega) (by rw [List.length_set]; exact hm) ?_
    rw [rd_nat (by omega)]
    rw [List.take_succ_eq_append_getElem (by rw [List.length_set]; omega), List.take_succ_eq_append_getElem (by omega), List.take_set_of_le (by omega), ht, List.getElem_set_self]
theorem toIntS_eq {l : List Int} {k : Nat} (hl : l.length ≤ 1048576) (hk : l.length < k) : laws_toIntS.f k l = some l := by
  unfold laws_toIntS.f
  rw [if_pos (by omega), if_pos (by omega), Int.toNat_natCast]
  exact toIntS_l0 l (by omega) l.length k 0 _ (by omega) hk (by simp) (by simp)

theorem eqIntS_l0 (l : List Int) (hl : l.length ≤ 9223372036854775807) : ∀ (d k i : Nat), i + d = l.length → d < k → laws_eqIntS.l0 k l l (i : Int) = some true := by
  intro d
  induction d with
  | zero =>
    intro k i hi hk
    obtain ⟨k, rfl, _⟩ := fuel hk
    simp only [laws_eqIntS.l0]
    rw [if_neg (by omega)]
  | succ d ih =>
    intro k i hi hk
    obtain ⟨k, rfl, hk⟩ := fuel hk
    simp only [laws_eqIntS.l0]
    rw [if_pos (by omega), if_pos (by omega), if_pos (by omega), if_pos trivial, wsucc (n := l.length) (by omega) hl]
    exact ih k (i + 1) (by omega) (by omega)
theorem eqIntS_self {l : List Int} {k : Nat} (hl : l.length ≤ 9223372036854775807) (hk : l.length < k) : laws_eqIntS.f k l l = some true := by
  unfold laws_eqIntS.f
  rw [if_pos rfl]
  exact eqIntS_l0 l hl l.length k 0 (by omega) hk

def marked : Nat → Int → List Int
  | 0, _ => []
  | n + 1, j => j :: marked n (j + 1)
theorem marked_length : ∀ n j, (marked n j).length = n
  | 0, _ => rfl
  | n + 1, j => by rw [marked, List.length_cons, marked_length n]
theorem markIntS_l0 : ∀ (d k i : Nat) (l : List Int) (j : Int), i + d = l.length → d < k → l.length ≤ 1000000000 → 0 ≤ j → j + d ≤ 4000000000 →
    laws_markIntS.l0 k l j (i : Int) = some (j + d, l.take i ++ marked d j) := by
  intro d
  induction d with
  | zero =>
    intro k i l j hi hk hl hj hb
    obtain ⟨k, rfl, _⟩ := fuel hk
    simp only [laws_markIntS.l0]
    rw [if_neg (by omega), List.take_of_length_le (by omega)]
    simp [marked]
  | succ d ih =>
    intro k i l j hi hk hl hj hb
    obtain ⟨k, rfl, hk⟩ := fuel hk
    simp only [laws_markIntS.l0]
    rw [if_pos (by omega), if_pos (by omega), wsucc (n := l.length) (by omega) (by omega), w64 (x := j + 1) (by omega) (by omega), Int.toNat_natCast,
      ih k (i + 1) _ (j + 1) (by rw [List.length_set]; omega) (by omega) (by rw [List.length_set]; omega) (by omega) (by omega)]
    rw [List.take_succ_eq_append_getElem (by rw [List.length_set]; omega), List.getElem_set_self, List.take_set_of_le (by omega), marked, List.append_assoc]
    congr 2
    omega
theorem markIntS_eq {l : List Int} {k : Nat} (hk : l.length < k) (hl : l.length ≤ 1000000000) : laws_markIntS.f k l 1 = some (1 + (l.length : Int), marked l.length 1) := by
  unfold laws_markIntS.f
  have := markIntS_l0 l.length k 0 l 1 (by omega) hk hl (by omega) (by omega)
  simpa using this
def markedD : Nat → Int → List S59
  | 0, _ => []
  | n + 1, j => ⟨j, j + 1⟩ :: markedD n (j + 2)
theorem markedD_length : ∀ n j, (markedD n j).length = n
  | 0, _ => rfl
  | n + 1, j => by rw [markedD, List.length_cons, markedD_length n]
theorem markDiagonalS_l0 : ∀ (d k i : Nat) (l : List S59) (j : Int), i + d = l.length → d < k → l.length ≤ 1000000000 → 0 ≤ j → j + 2 * d ≤ 4000000000 →
    laws_markDiagonalS.l0 k l j (i : Int) = some (j + 2 * d, l.take i ++ markedD d j) := by
  intro d
  induction d with
  | zero =>
    intro k i l j hi hk hl hj hb
    obtain ⟨k, rfl, _⟩ := fuel hk
    simp only [laws_markDiagonalS.l0]
    rw [if_neg (by omega), List.take_of_length_le (by omega)]
    simp [markedD]
  | succ d ih =>
    intro k i l j hi hk hl hj hb
    obtain ⟨k, rfl, hk⟩ := fuel hk
    simp only [laws_markDiagonalS.l0]
    rw [if_pos (by omega), if_pos (by omega), Option.bind_some, wsucc (n := l.length) (by omega) (by omega), w64 (x := j + 1) (by omega) (by omega), w64 (x := j + 1 + 1) (by omega) (by omega), Int.toNat_natCast,
      List.set_set, rdT_nat (by rw [List.length_set]; omega), List.getElem_set_self,
      ih k (i + 1) _ (j + 1 + 1) (by rw [List.length_set]; omega) (by omega) (by rw [List.length_set]; omega) (by omega) (by omega)]
    rw [List.take_succ_eq_append_getElem (by rw [List.length_set]; omega), List.getElem_set_self, List.take_set_of_le (by omega), markedD, List.append_assoc, show j + 1 + 1 = j + 2 by omega]
    congr 2
    omega
theorem markDiagonalS_eq {l : List S59} {k : Nat} (hk : l.length < k) (hl : l.length ≤ 1000000000) : laws_markDiagonalS.f k l 1 = some (1 + 2 * (l.length : Int), markedD l.length 1) := by
  unfold laws_markDiagonalS.f
  have := markDiagonalS_l0 l.length k 0 l 1 (by omega) hk hl (by omega) (by omega)
  simpa using this

theorem heldDiagonalS_l0 : ∀ (d k : Nat) (p : List S59) (j : Int), d < k → p.length + d ≤ 1000000000 → 0 ≤ j → j + 2 * d ≤ 4000000000 →
    laws_heldDiagonalS.l0 k (p ++ markedD d j) j (p.length : Int) = some (j + 2 * d) := by
  intro d
  induction d with
  | zero =>
    intro k p j hk hl hj hb
    obtain ⟨k, rfl, _⟩ := fuel hk
    simp only [laws_heldDiagonalS.l0]
    rw [if_neg (by simp [markedD])]
    simp
  | succ d ih =>
    intro k p j hk hl hj hb
    obtain ⟨k, rfl, hk⟩ := fuel hk
    simp only [laws_heldDiagonalS.l0]
    have hlen : (p ++ markedD (d + 1) j).length = p.length + (d + 1) := by rw [List.length_append, markedD_length]
    have hr : rd_T59 (p ++ markedD (d + 1) j) (p.length : Int) = ⟨j, j + 1⟩ := by
      rw [rdT_nat (by omega), List.getElem_append_right (Nat.le_refl _)]
      simp [markedD]
    rw [if_pos (by omega), if_pos (by omega), hr, wsucc (n := p.length + (d + 1)) (by omega) (by omega), w64 (x := j + 1) (by omega) (by omega), w64 (x := j + 1 + 1) (by omega) (by omega), if_pos rfl, if_pos rfl]
    have h := ih k (p ++ [⟨j, j + 1⟩]) (j + 2) (by omega) (by rw [List.length_append]; simp; omega) (by omega) (by omega)
    rw [List.length_append, List.length_singleton, List.append_assoc] at h
    rw [markedD, show j + 1 + 1 = j + 2 by omega]
    refine h.trans ?_
    congr 1
    omega
theorem heldDiagonalS_eq {n k : Nat} (hk : n < k) (hl : n ≤ 1000000000) : laws_heldDiagonalS.f k (markedD n 1) 1 = some (1 + 2 * (n : Int)) := by
  unfold laws_heldDiagonalS.f
  exact heldDiagonalS_l0 n k [] 1 hk (by simpa using hl) (by omega) (by omega)

def rowD (n a : Nat) : Nat → Nat → List S59
  | _, 0 => []
  | b, d + 1 => (if IsDiag n a b then [⟨a, b⟩] else []) ++ rowD n a (b + 1) d
def allD (n : Nat) : Nat → Nat → List S59
  | _, 0 => []
  | a, d + 1 => rowD n a (a + 1) (n - (a + 1)) ++ allD n (a + 1) d
theorem rowD_length (n a : Nat) : ∀ d b, (rowD n a b d).length ≤ d
  | 0, _ => by simp [rowD]
  | d + 1, b => by
    have := rowD_length n a d (b + 1)
    rw [rowD, List.length_append]
    split <;> simp <;> omega
theorem allD_length (n : Nat) : ∀ d a, (allD n a d).length ≤ d * n
  | 0, _ => by simp [allD]
  | d + 1, a => by
    have := allD_length n d (a + 1)
    have h2 := rowD_length n a (n - (a + 1)) (a + 1)
    rw [allD, List.length_append, Nat.succ_mul]
    omega
theorem rowD_mem (n a : Nat) : ∀ d b x, x ∈ rowD n a b d → IsDiag n x.f0 x.f1
  | 0, _, x, h => by simp [rowD] at h
  | d + 1, b, x, h => by
    rw [rowD, List.mem_append] at h
    rcases h with h | h
    · by_cases c : IsDiag (n : Int) (a : Int) (b : Int)
      · rw [if_pos c, List.mem_singleton] at h
        subst h
        exact c
      · rw [if_neg c] at h; cases h
    · exact rowD_mem n a d (b + 1) x h
theorem allD_mem (n : Nat) : ∀ d a x, x ∈ allD n a d → IsDiag n x.f0 x.f1
  | 0, _, x, h => by simp [allD] at h
  | d + 1, a, x, h => by
    rw [allD, List.mem_append] at h
    rcases h with h | h
    · exact rowD_mem n a _ _ x h
    · exact allD_mem n d (a + 1) x h
theorem allDiag_l1 (n a : Nat) (hn : 3 ≤ (n : Int) ∧ (n : Int) ≤ 12) (x8 x9 : Int) : ∀ (d k b : Nat) (L : List S59), b + d = n → L.length + d ≤ 1000 →
    impl_allDiagonals.l1 (k + d + 1) n L a b x8 x9 = impl_allDiagonals.l0 k n (L ++ rowD n a b d) x8 (wrap64 (x9 + 1)) := by
  intro d
  induction d with
  | zero =>
    intro k b L hb hL
    simp only [impl_allDiagonals.l1]
    rw [if_neg (by omega), rowD, List.append_nil]
  | succ d ih =>
    intro k b L hb hL
    obtain ⟨z, hz⟩ : ∃ z, z = k + d + 1 := ⟨_, rfl⟩
    rw [show k + (d + 1) + 1 = z + 1 by omega]
    simp only [impl_allDiagonals.l1]
    rw [if_pos (by omega), isDiagonal_eq hn, Option.bind_some, wsucc (n := n) (by omega) (by omega), hz, rowD]
    by_cases h : IsDiag (n : Int) (a : Int) (b : Int)
    · rw [decide_eq_true h, if_pos rfl, if_pos (by omega), if_pos h, ih k (b + 1) _ (by omega) (by simp; omega), List.append_assoc]
    · rw [decide_eq_false h, if_neg (by decide), if_neg h, ih k (b + 1) _ (by omega) (by omega), List.nil_append]
theorem allDiag_l0 (n : Nat) (hn : 3 ≤ (n : Int) ∧ (n : Int) ≤ 12) : ∀ (d k a : Nat) (L : List S59), a + d = n → 15 * d + 2 ≤ k → L.length + 12 * d ≤ 500 →
    impl_allDiagonals.l0 k n L n a = some (L ++ allD n a d) := by
  intro d
  induction d with
  | zero =>
    intro k a L ha hk hL
    obtain ⟨k, rfl⟩ : ∃ m, k = m + 1 := ⟨k - 1, by omega⟩
    simp only [impl_allDiagonals.l0]
    rw [if_neg (by omega), allD, List.append_nil]
  | succ d ih =>
    intro k a L ha hk hL
    obtain ⟨k, rfl⟩ : ∃ m, k = m + 1 := ⟨k - 1, by omega⟩
    obtain ⟨m, hm⟩ : ∃ m, k = m + (n - (a + 1)) + 1 := ⟨k - (n - (a + 1)) - 1, by omega⟩
    have hr := rowD_length n a (n - (a + 1)) (a + 1)
    simp only [impl_allDiagonals.l0]
    rw [if_pos (by omega), wsucc (n := n) (by omega) (by omega), hm, allDiag_l1 n a hn _ _ (n - (a + 1)) m (a + 1) L (by omega) (by omega), wsucc (n := n) (by omega) (by omega), ih m (a + 1) _ (by omega) (by omega) (by rw [List.length_append]; omega), allD, List.append_assoc]
theorem allDiag_eq (n : Nat) (hn : 3 ≤ (n : Int) ∧ (n : Int) ≤ 12) {k : Nat} (hk : 200 ≤ k) : impl_allDiagonals.f k n = some (allD n 0 n) := by
  unfold impl_allDiagonals.f
  exact allDiag_l0 n hn n k 0 [] (by omega) (by omega) (by simp; omega)
/-- The entry that belongs to a diagonal is one. -/
def oneAt (q : List Int) (x : S59) : Bool := decide (ent q x.f0 (x.f1 - x.f0).toNat = 1)
theorem onesOf_l1 (q : List Int) (n a : Nat) (hq : q.length = n) (hn : 3 ≤ (n : Int) ∧ (n : Int) ≤ 12) (ha : a < n) : ∀ (d k b : Nat) (L : List S59), b + d = n → a + 2 ≤ b → L.length + d ≤ 1000 → 40 ≤ k →
    spec_OnesOf.l1 (k + d + 1) q n L a b = spec_OnesOf.l0 k q n (L ++ (rowD n a b d).filter (oneAt q)) (wrap64 ((a : Int) + 1)) := by
  intro d
  induction d with
  | zero =>
    intro k b L hb hab hL hk
    simp only [spec_OnesOf.l1]
    rw [if_neg (by omega), rowD, List.filter_nil, List.append_nil]
  | succ d ih =>
    intro k b L hb hab hL hk
    obtain ⟨z, hz⟩ : ∃ z, z = k + d + 1 := ⟨_, rfl⟩
    rw [show k + (d + 1) + 1 = z + 1 by omega]
    simp only [spec_OnesOf.l1]
    have hf := frEntry_eq (q := q) (k := z) (i := (a : Int)) (T := b - a) (by omega) (by omega) (by omega) (by omega)
    rw [show (a : Int) + ((b - a : Nat) : Int) = (b : Int) by omega] at hf
    have ho : oneAt q ⟨(a : Int), (b : Int)⟩ = decide (ent q (a : Int) (b - a) = 1) := by
      unfold oneAt
      rw [show ((b : Int) - (a : Int)).toNat = b - a by omega]
    rw [if_pos (by omega), w64 (x := (b : Int) - (a : Int)) (by omega) (by omega), w64 (x := (n : Int) - 2) (by omega) (by omega), wsucc (n := n) (by omega) (by omega), rowD, List.filter_append]
    by_cases h : IsDiag (n : Int) (a : Int) (b : Int)
    · rw [if_pos h, if_pos (by unfold IsDiag at h; omega), hf, Option.bind_some]
      by_cases h1 : ent q (a : Int) (b - a) = 1
      · rw [if_pos h1, if_pos (by omega), hz, ih k (b + 1) _ (by omega) (by omega) (by simp; omega) hk, List.filter_cons, ho, decide_eq_true h1, if_pos rfl, List.filter_nil, List.append_assoc]
      · rw [if_neg h1, hz, ih k (b + 1) _ (by omega) (by omega) (by omega) hk, List.filter_cons, ho, decide_eq_false h1, if_neg (by decide), List.filter_nil, List.nil_append]
    · rw [if_neg h, if_neg (by unfold IsDiag at h; omega), hz, ih k (b + 1) _ (by omega) (by omega) (by omega) hk, List.filter_nil, List.nil_append]
theorem rowD_skip (n a : Nat) : rowD n a (a + 1) (n - (a + 1)) = rowD n a (a + 2) (n - (a + 2)) := by
  rcases Nat.lt_or_ge (a + 1) n with h | h
  · rw [show n - (a + 1) = (n - (a + 2)) + 1 by omega, rowD, if_neg (by unfold IsDiag; omega), List.nil_append]
  · rw [show n - (a + 1) = 0 by omega, show n - (a + 2) = 0 by omega, rowD, rowD]
theorem onesOf_l0 (q : List Int) (n : Nat) (hq : q.length = n) (hn : 3 ≤ (n : Int) ∧ (n : Int) ≤ 12) : ∀ (d k a : Nat) (L : List S59), a + d = n → 15 * d + 60 ≤ k → L.length + 12 * d ≤ 500 →
    spec_OnesOf.l0 k q n L a = some (L ++ (allD n a d).filter (oneAt q), true) := by
  intro d
  induction d with
  | zero =>
    intro k a L ha hk hL
    obtain ⟨k, rfl⟩ : ∃ m, k = m + 1 := ⟨k - 1, by omega⟩
    simp only [spec_OnesOf.l0]
    rw [if_neg (by omega), allD, List.filter_nil, List.append_nil]
  | succ d ih =>
    intro k a L ha hk hL
    obtain ⟨k, rfl⟩ : ∃ m, k = m + 1 := ⟨k - 1, by omega⟩
    have hr := rowD_length n a (n - (a + 2)) (a + 2)
    have hfl := List.length_filter_le (oneAt q) (rowD n a (a + 2) (n - (a + 2)))
    simp only [spec_OnesOf.l0]
    rw [if_pos (by omega), w64 (x := (a : Int) + 2) (by omega) (by omega), show (a : Int) + 2 = ((a + 2 : Nat) : Int) by omega, allD, rowD_skip, List.filter_append]
    rcases Nat.lt_or_ge (a + 1) n with h | h
    · obtain ⟨m, hm⟩ : ∃ m, k = m + (n - (a + 2)) + 1 := ⟨k - (n - (a + 2)) - 1, by omega⟩
      rw [hm, onesOf_l1 q n a hq hn (by omega) (n - (a + 2)) m (a + 2) L (by omega) (by omega) (by omega) (by omega), wsucc (n := n) (by omega) (by omega), ih m (a + 1) _ (by omega) (by omega) (by rw [List.length_append]; omega), List.append_assoc]
    · obtain ⟨m, hm⟩ : ∃ m, k = m + 1 := ⟨k - 1, by omega⟩
      rw [hm]
      simp only [spec_OnesOf.l1]
      rw [if_neg (by omega), wsucc (n := n) (by omega) (by omega), ih m (a + 1) _ (by omega) (by omega) (by omega), show n - (a + 2) = 0 by omega, rowD, List.filter_nil, List.nil_append]
theorem del_eq {q : List Int} (hn : 3 ≤ (q.length : Int) ∧ (q.length : Int) ≤ 12) {x : S59} (hx : IsDiag (q.length : Int) x.f0 x.f1) {k : Nat} (hk : 40 ≤ k) : impl_OnesOf.d k q x = some (!(oneAt q x)) := by
  unfold IsDiag at hx
  have hlen := entL_length q x.f0 (q.length + 1)
  unfold impl_OnesOf.d oneAt
  rw [entries_eq hn (by omega) (by omega), Option.bind_some, w64 (x := x.f1 - x.f0) (by omega) (by omega), if_pos (by omega), if_pos (by omega), entL_rd (by omega) (by omega)]
  by_cases h : ent q x.f0 (x.f1 - x.f0).toNat = 1
  · rw [h]; rfl
  · rw [decide_eq_false h, bne_iff_ne.2 h]; rfl
theorem keep_eq {q : List Int} (hn : 3 ≤ (q.length : Int) ∧ (q.length : Int) ≤ 12) {k : Nat} (hk : 40 ≤ k) : ∀ L : List S59, (∀ x ∈ L, IsDiag (q.length : Int) x.f0 x.f1) → impl_OnesOf.keep k q L = some (L.filter (oneAt q))
  | [], _ => rfl
  | x :: r, h => by
    rw [impl_OnesOf.keep, del_eq hn (h x List.mem_cons_self) hk, Option.bind_some, keep_eq hn hk r (fun y hy => h y (List.mem_cons_of_mem _ hy)), Option.bind_some, List.filter_cons]
    cases oneAt q x <;> rfl
theorem res (l : List Int) (hl : l.length ≤ 1048576) (hw : ∀ j, j < l.length → i64 (nth l j)) : ∃ q b, q.length ≤ 200 ∧ ∀ k, l.length + 3000 ≤ k → spec_OnesOf.f k l = some (q, b) ∧ impl_OnesOf.f k l = some (q, b) := by
  obtain ⟨t, ht, hq⟩ := isq l hl hw
  cases t with
  | false =>
    refine ⟨[], false, by simp, fun k hk => ?_⟩
    obtain ⟨h1, h2⟩ := hq k (by omega)
    unfold spec_OnesOf.f impl_OnesOf.f
    rw [h1, h2]
    exact ⟨rfl, rfl⟩
  | true =>
    have h12 := (ht rfl).1
    have hal := allD_length l.length l.length 0
    have hmul : l.length * l.length ≤ 12 * 12 := Nat.mul_le_mul (by omega) (by omega)
    have hfl := List.length_filter_le (oneAt l) (allD l.length 0 l.length)
    refine ⟨(allD l.length 0 l.length).filter (oneAt l), true, by omega, fun k hk => ?_⟩
    obtain ⟨h1, h2⟩ := hq k (by omega)
    have hs := onesOf_l0 l l.length rfl (by omega) l.length k 0 [] (by omega) (by omega) (by simp; omega)
    unfold spec_OnesOf.f impl_OnesOf.f
    rw [h1, h2, Option.bind_some, Option.bind_some, if_pos rfl, if_pos rfl, allDiag_eq l.length (by omega) (by omega), Option.bind_some, if_pos (by omega), keep_eq (by omega) (by omega) _ (fun x hx => allD_mem _ _ _ x hx)]
    exact ⟨hs, rfl⟩
-- tail
theorem FnExactOnesOf : laws_FnExactOnesOf.Pure := by
  intro l _ hw
  refine ⟨l.length + 4000, ?_⟩
  unfold laws_FnExactOnesOf.f
  by_cases h : (l.length : Int) > 1048576
  · rw [if_pos h]
  · rw [if_neg h]
    have hl : l.length ≤ 1048576 := by omega
    obtain ⟨q, b, hq, hr⟩ := res l hl (wf_nth hw)
    have hS : spec_OnesOf.f (l.length + 4000) l = some (q, b) := (hr _ (by omega)).1
    have hI : ∀ k, l.length + 3000 ≤ k → impl_OnesOf.f k l = some (q, b) := fun k hk => (hr k hk).2
    have hT : ∀ k, l.length < k → laws_toIntS.f k l = some l := fun k hk => toIntS_eq hl hk
    have hE : ∀ k, l.length < k → laws_eqIntS.f k l l = some true := fun k hk => eqIntS_self (by omega) hk
    have hM : ∀ k, l.length < k → laws_markIntS.f k l 1 = some (1 + (l.length : Int), marked l.length 1) := fun k hk => markIntS_eq hk (by omega)
    have n1 : ¬ (1 + (l.length : Int) < 0) := by omega
    have hQ : ∀ k, 300 < k → laws_eqDiagonalS.f k q q = some true := fun k hk => eqDiagonalS_self (by omega) (by omega)
    have hMI : ∀ k, 300 < k → laws_markDiagonalS.f k q 1 = some (1 + 2 * (q.length : Int), markedD q.length 1) := fun k hk => markDiagonalS_eq (by omega) (by omega)
    have hHI : ∀ k, 300 < k → laws_heldDiagonalS.f k (markedD q.length 1) 1 = some (1 + 2 * (q.length : Int)) := fun k hk => heldDiagonalS_eq (by omega) (by omega)
    have n2 : ¬ (1 + 2 * (q.length : Int) < 0) := by omega
    repeat (first | dsimp only | rw [Option.bind_some] | rw [if_pos rfl] | rw [bne_self_eq_false] | rw [if_neg Bool.false_ne_true] | rw [hT _ (by omega)] | rw [hS] | rw [hI _ (by omega)] | rw [hE _ (by omega)] | rw [hM _ (by omega)] | rw [if_neg n1] | rw [hQ _ (by omega)] | rw [hMI _ (by omega)] | rw [hHI _ (by omega)] | rw [if_neg n2] | (simp only [laws_FnExactOnesOf.j0]) | (simp only [laws_FnExactOnesOf.j1]) | (simp only [laws_FnExactOnesOf.j2]))

end Go.Proofs.Ytinnmloliknilab.Pure
