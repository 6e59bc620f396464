/- The plain statement of FnExactZigzagOf, over numbers and lists: the program's answer is the reference's. -/
import Derived.Test.YtinnmloliknilaaPFnExactZigzagOfx7
set_option linter.unusedVariables false
set_option linter.unusedSimpArgs false
namespace Go.Proofs.Ytinnmloliknilaa.Pure
open Go.RowKit Go.Proofs.Ytinnmloliknilaa.PFnExactZigzagOf Go.Proofs.YtinnmloliknilaaW.PrintWords Go.Proofs.YtinnmloliknilaaW.PrintLast

theorem within_eq (a b c : Int) : impl_within.f a b c = some (decide (b ≤ a ∧ a ≤ c)) := by
  unfold impl_within.f
  split <;> simp <;> omega

theorem l1In_eq (a b c : Int) : spec_l1In.f a b c = some (decide (b ≤ a ∧ a ≤ c)) := by
  unfold spec_l1In.f
  split <;> simp <;> omega

theorem w64 {x : Int} (h0 : -9223372036854775808 ≤ x) (h1 : x ≤ 9223372036854775807) : wrap64 x = x := by
  unfold wrap64
  omega
theorem wf_i64 {x : Int} (h : (Lit.int .i64 x).wf = true) : -9223372036854775808 ≤ x ∧ x ≤ 9223372036854775807 := by
  simp [Lit.wf, IntKind.min, IntKind.max, IntKind.signed, IntKind.bits] at h
  omega

theorem rd_nat {l : List Int} {i : Nat} (h : i < l.length) : rd l (i : Int) = l[i] := by
  unfold rd
  rw [Int.toNat_natCast, List.getD_eq_getElem?_getD, List.getElem?_eq_getElem h]
  rfl
theorem rd_drop {l : List Int} {i : Nat} (h : i < l.length) : l.drop i = rd l (i : Int) :: l.drop (i + 1) := by
  rw [rd_nat h, ← List.drop_eq_getElem_cons h]
theorem wsucc {i n : Nat} (h : i < n) (hn : n ≤ 9223372036854775807) : wrap64 ((i : Int) + 1) = ((i + 1 : Nat) : Int) := by
  rw [w64 (by omega) (by omega)]
  omega
theorem ite_t {α : Sort _} {a b : α} : (if true = true then a else b) = a := if_pos rfl
theorem ite_f {α : Sort _} {a b : α} : (if false = true then a else b) = b := if_neg (by decide)
theorem fuel {k d : Nat} (h : d < k) : ∃ m, k = m + 1 ∧ d ≤ m := ⟨k - 1, by omega, by omega⟩

theorem rdT_nat {l : List S52} {i : Nat} (h : i < l.length) : rd_T52 l (i : Int) = l[i] := by
  unfold rd_T52
  rw [Int.toNat_natCast, List.getD_eq_getElem?_getD, List.getElem?_eq_getElem h]
  rfl
theorem rdT_drop {l : List S52} {i : Nat} (h : i < l.length) : l.drop i = rd_T52 l (i : Int) :: l.drop (i + 1) := by
  rw [rdT_nat h, ← List.drop_eq_getElem_cons h]
theorem eqDiagonal_self (a b : Int) : laws_eqDiagonal.f a b a b = some true := by
  unfold laws_eqDiagonal.f
  rw [if_pos rfl, if_pos rfl]
theorem eqDiagonalS_l0 (l : List S52) (hl : l.length ≤ 9223372036854775807) : ∀ (d k i : Nat), i + d = l.length → d < k → laws_eqDiagonalS.l0 k l l (i : Int) = some true := by
  intro d
  induction d with
  | zero =>
    intro k i hi hk
    obtain ⟨k, rfl, _⟩ := fuel hk
    simp only [laws_eqDiagonalS.l0]
    rw [if_neg (by omega)]
  | succ d ih =>
    intro k i hi hk
    obtain ⟨k, rfl, hk⟩ := fuel hk
    simp only [laws_eqDiagonalS.l0]
    rw [if_pos (by omega), if_pos (by omega), if_pos (by omega), eqDiagonal_self, Option.bind_some, if_pos rfl, wsucc (n := l.length) (by omega) hl]
    exact ih k (i + 1) (by omega) (by omega)
theorem eqDiagonalS_self {l : List S52} {k : Nat} (hl : l.length ≤ 9223372036854775807) (hk : l.length < k) : laws_eqDiagonalS.f k l l = some true := by
  unfold laws_eqDiagonalS.f
  rw [if_pos rfl]
  exact eqDiagonalS_l0 l hl l.length k 0 (by omega) hk

def markedD : Nat → Int → List S52
  | 0, _ => []
  | n + 1, j => ⟨j, j + 1⟩ :: markedD n (j + 2)
theorem markedD_length : ∀ n j, (markedD n j).length = n
  | 0, _ => rfl
  | n + 1, j => by rw [markedD, List.length_cons, markedD_length n]
theorem markDiagonalS_l0 : ∀ (d k i : Nat) (l : List S52) (j : Int), i + d = l.length → d < k → l.length ≤ 1000000000 → 0 ≤ j → j + 2 * d ≤ 4000000000 →
    laws_markDiagonalS.l0 k l j (i : Int) = some (j + 2 * d, l.take i ++ markedD d j) := by
  intro d
  induction d with
  | zero =>
    intro k i l j hi hk hl hj hb
    obtain ⟨k, rfl, _⟩ := fuel hk
    simp only [laws_markDiagonalS.l0]
    rw [if_neg (by omega), List.take_of_length_le (by omega)]
    simp [markedD]
  | succ d ih =>
    intro k i l j hi hk hl hj hb
    obtain ⟨k, rfl, hk⟩ := fuel hk
    simp only [laws_markDiagonalS.l0]
    rw [if_pos (by omega), if_pos (by omega), Option.bind_some, wsucc (n := l.length) (by omega) (by omega), w64 (x := j + 1) (by omega) (by omega), w64 (x := j + 1 + 1) (by omega) (by omega), Int.toNat_natCast,
      List.set_set, rdT_nat (by rw [List.length_set]; omega), List.getElem_set_self,
      ih k (i + 1) _ (j + 1 + 1) (by rw [List.length_set]; omega) (by omega) (by rw [List.length_set]; omega) (by omega) (by omega)]
    rw [List.take_succ_eq_append_getElem (by rw [List.length_set]; omega), List.getElem_set_self, List.take_set_of_le (by omega), markedD, List.append_assoc, show j + 1 + 1 = j + 2 by omega]
    congr 2
    omega
theorem markDiagonalS_eq {l : List S52} {k : Nat} (hk : l.length < k) (hl : l.length ≤ 1000000000) : laws_markDiagonalS.f k l 1 = some (1 + 2 * (l.length : Int), markedD l.length 1) := by
  unfold laws_markDiagonalS.f
  have := markDiagonalS_l0 l.length k 0 l 1 (by omega) hk hl (by omega) (by omega)
  simpa using this
theorem heldDiagonalS_l0 : ∀ (d k : Nat) (p : List S52) (j : Int), d < k → p.length + d ≤ 1000000000 → 0 ≤ j → j + 2 * d ≤ 4000000000 →
    laws_heldDiagonalS.l0 k (p ++ markedD d j) j (p.length : Int) = some (j + 2 * d) := by
  intro d
  induction d with
  | zero =>
    intro k p j hk hl hj hb
    obtain ⟨k, rfl, _⟩ := fuel hk
    simp only [laws_heldDiagonalS.l0]
    rw [if_neg (by simp [markedD])]
    simp
  | succ d ih =>
    intro k p j hk hl hj hb
    obtain ⟨k, rfl, hk⟩ := fuel hk
    simp only [laws_heldDiagonalS.l0]
    have hlen : (p ++ markedD (d + 1) j).length = p.length + (d + 1) := by rw [List.length_append, markedD_length]
    have hr : rd_T52 (p ++ markedD (d + 1) j) (p.length : Int) = ⟨j, j + 1⟩ := by
      rw [rdT_nat (by omega), List.getElem_append_right (Nat.le_refl _)]
      simp [markedD]
    rw [if_pos (by omega), if_pos (by omega), hr, wsucc (n := p.length + (d + 1)) (by omega) (by omega), w64 (x := j + 1) (by omega) (by omega), w64 (x := j + 1 + 1) (by omega) (by omega), if_pos rfl, if_pos rfl]
    have h := ih k (p ++ [⟨j, j + 1⟩]) (j + 2) (by omega) (by rw [List.length_append]; simp; omega) (by omega) (by omega)
    rw [List.length_append, List.length_singleton, List.append_assoc] at h
    rw [markedD, show j + 1 + 1 = j + 2 by omega]
    refine h.trans ?_
    congr 1
    omega
theorem heldDiagonalS_eq {n k : Nat} (hk : n < k) (hl : n ≤ 1000000000) : laws_heldDiagonalS.f k (markedD n 1) 1 = some (1 + 2 * (n : Int)) := by
  unfold laws_heldDiagonalS.f
  exact heldDiagonalS_l0 n k [] 1 hk (by simpa using hl) (by omega) (by omega)

theorem zigzag_fin : ∀ i : Fin 10, laws_FnExactZigzagOf.f 300 (((i : Nat) : Int) + 3) = some true := by decide +kernel
theorem FnExactZigzagOf : laws_FnExactZigzagOf.Pure := by
  intro n _
  refine ⟨300, ?_⟩
  by_cases h : 3 ≤ n ∧ n ≤ 12
  · have := zigzag_fin ⟨(n - 3).toNat, by omega⟩
    simpa [Int.toNat_of_nonneg (show 0 ≤ n - 3 by omega)] using this
  · have hS : ∀ k, spec_ZigzagOf.f k n = some ([], false) := by
      intro k
      unfold spec_ZigzagOf.f spec_poIs.f
      simp only [l1In_eq, Option.bind_some, decide_eq_true_eq]
      rw [if_neg h]
    have hI : ∀ k, impl_ZigzagOf.f k n = some ([], false) := by
      intro k
      unfold impl_ZigzagOf.f impl_isPolygon.f
      simp only [within_eq, Option.bind_some, decide_eq_true_eq]
      rw [if_neg h]
    have hE : ∀ k, 10 ≤ k → laws_eqDiagonalS.f k [] [] = some true := fun k hk => eqDiagonalS_self (by simp) (by simp; omega)
    have hM : ∀ k, 10 ≤ k → laws_markDiagonalS.f k [] 1 = some (1, []) := fun k hk => markDiagonalS_eq (l := []) (by simp; omega) (by simp)
    have hH : ∀ k, 10 ≤ k → laws_heldDiagonalS.f k [] 1 = some 1 := fun k hk => heldDiagonalS_eq (n := 0) (by omega) (by simp)
    have n1 : ¬ ((1 : Int) < 0) := by omega
    unfold laws_FnExactZigzagOf.f
    repeat (first | dsimp only | rw [Option.bind_some] | rw [if_pos rfl] | rw [bne_self_eq_false] | rw [if_neg Bool.false_ne_true] | rw [hS _] | rw [hI _] | rw [hE _ (by omega)] | rw [hM _ (by omega)] | rw [hH _ (by omega)] | rw [if_neg n1] | (simp only [laws_FnExactZigzagOf.j0]) | (simp only [laws_FnExactZigzagOf.j1]))

end Go.Proofs.Ytinnmloliknilaa.Pure
