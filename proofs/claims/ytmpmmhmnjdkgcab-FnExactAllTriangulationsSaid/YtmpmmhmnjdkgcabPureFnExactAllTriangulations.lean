/- The plain statement of FnExactAllTriangulations, over numbers and lists: the program's answer is the reference's. -/
import Derived.Test.YtmpmmhmnjdkgcabPFnExactAllTriangulationsx
set_option linter.unusedVariables false
set_option linter.unusedSimpArgs false
namespace Go.Proofs.Ytmpmmhmnjdkgcab.Pure
open Go.RowKit Go.Proofs.Ytmpmmhmnjdkgcab.PFnExactAllTriangulations Go.Proofs.YtmpmmhmnjdkgcabW.PrintWords Go.Proofs.YtmpmmhmnjdkgcabW.PrintLast

theorem within_eq (a b c : Int) : impl_within.f a b c = some (decide (b ≤ a ∧ a ≤ c)) := by
  unfold impl_within.f
  split <;> simp <;> omega

theorem l1In_eq (a b c : Int) : spec_l1In.f a b c = some (decide (b ≤ a ∧ a ≤ c)) := by
  unfold spec_l1In.f
  split <;> simp <;> omega

theorem w64 {x : Int} (h0 : -9223372036854775808 ≤ x) (h1 : x ≤ 9223372036854775807) : wrap64 x = x := by
  unfold wrap64
  omega
theorem wf_i64 {x : Int} (h : (Lit.int .i64 x).wf = true) : -9223372036854775808 ≤ x ∧ x ≤ 9223372036854775807 := by
  simp [Lit.wf, IntKind.min, IntKind.max, IntKind.signed, IntKind.bits] at h
  omega

theorem rd_nat {l : List Int} {i : Nat} (h : i < l.length) : rd l (i : Int) = l[i] := by
  unfold rd
  rw [Int.toNat_natCast, List.getD_eq_getElem?_getD, List.getElem?_eq_getElem h]
  rfl
theorem rd_drop {l : List Int} {i : Nat} (h : i < l.length) : l.drop i = rd l (i : Int) :: l.drop (i + 1) := by
  rw [rd_nat h, ← List.drop_eq_getElem_cons h]
theorem wsucc {i n : Nat} (h : i < n) (hn : n ≤ 9223372036854775807) : wrap64 ((i : Int) + 1) = ((i + 1 : Nat) : Int) := by
  rw [w64 (by omega) (by omega)]
  omega
theorem ite_t {α : Sort _} {a b : α} : (if true = true then a else b) = a := if_pos rfl
theorem ite_f {α : Sort _} {a b : α} : (if false = true then a else b) = b := if_neg (by decide)
theorem fuel {k d : Nat} (h : d < k) : ∃ m, k = m + 1 ∧ d ≤ m := ⟨k - 1, by omega, by omega⟩

theorem rdT_nat {l : List S54} {i : Nat} (h : i < l.length) : rd_T54 l (i : Int) = l[i] := by
  unfold rd_T54
  rw [Int.toNat_natCast, List.getD_eq_getElem?_getD, List.getElem?_eq_getElem h]
  rfl
theorem rdT_drop {l : List S54} {i : Nat} (h : i < l.length) : l.drop i = rd_T54 l (i : Int) :: l.drop (i + 1) := by
  rw [rdT_nat h, ← List.drop_eq_getElem_cons h]
theorem eqDiagonal_self (a b : Int) : laws_eqDiagonal.f a b a b = some true := by
  unfold laws_eqDiagonal.f
  rw [if_pos rfl, if_pos rfl]
theorem eqDiagonalS_l0 (l : List S54) (hl : l.length ≤ 9223372036854775807) : ∀ (d k i : Nat), i + d = l.length → d < k → laws_eqDiagonalS.l0 k l l (i : Int) = some true := by
  intro d
  induction d with
  | zero =>
    intro k i hi hk
    obtain ⟨k, rfl, _⟩ := fuel hk
    simp only [laws_eqDiagonalS.l0]
    rw [if_neg (by omega)]
  | succ d ih =>
    intro k i hi hk
    obtain ⟨k, rfl, hk⟩ := fuel hk
    simp only [laws_eqDiagonalS.l0]
    rw [if_pos (by omega), if_pos (by omega), if_pos (by omega), eqDiagonal_self, Option.bind_some, if_pos rfl, wsucc (n := l.length) (by omega) hl]
    exact ih k (i + 1) (by omega) (by omega)
theorem eqDiagonalS_self {l : List S54} {k : Nat} (hl : l.length ≤ 9223372036854775807) (hk : l.length < k) : laws_eqDiagonalS.f k l l = some true := by
  unfold laws_eqDiagonalS.f
  rw [if_pos rfl]
  exact eqDiagonalS_l0 l hl l.length k 0 (by omega) hk

def markedD : Nat → Int → List S54
  | 0, _ => []
  | n + 1, j => ⟨j, j + 1⟩ :: markedD n (j + 2)
theorem markedD_length : ∀ n j, (markedD n j).length = n
  | 0, _ => rfl
  | n + 1, j => by rw [markedD, List.length_cons, markedD_length n]
theorem markDiagonalS_l0 : ∀ (d k i : Nat) (l : List S54) (j : Int), i + d = l.length → d < k → l.length ≤ 1000000000 → 0 ≤ j → j + 2 * d ≤ 4000000000 →
    laws_markDiagonalS.l0 k l j (i : Int) = some (j + 2 * d, l.take i ++ markedD d j) := by
  intro d
  induction d with
  | zero =>
    intro k i l j hi hk hl hj hb
    obtain ⟨k, rfl, _⟩ := fuel hk
    simp only [laws_markDiagonalS.l0]
    rw [if_neg (by omega), List.take_of_length_le (by omega)]
    simp [markedD]
  | succ d ih =>
    intro k i l j hi hk hl hj hb
    obtain ⟨k, rfl, hk⟩ := fuel hk
    simp only [laws_markDiagonalS.l0]
    rw [if_pos (by omega), if_pos (by omega), Option.bind_some, wsucc (n := l.length) (by omega) (by omega), w64 (x := j + 1) (by omega) (by omega), w64 (x := j + 1 + 1) (by omega) (by omega), Int.toNat_natCast,
      List.set_set, rdT_nat (by rw [List.length_set]; omega), List.getElem_set_self,
      ih k (i + 1) _ (j + 1 + 1) (by rw [List.length_set]; omega) (by omega) (by rw [List.length_set]; omega) (by omega) (by omega)]
    rw [List.take_succ_eq_append_getElem (by rw [List.length_set]; omega), List.getElem_set_self, List.take_set_of_le (by omega), markedD, List.append_assoc, show j + 1 + 1 = j + 2 by omega]
    congr 2
    omega
theorem markDiagonalS_eq {l : List S54} {k : Nat} (hk : l.length < k) (hl : l.length ≤ 1000000000) : laws_markDiagonalS.f k l 1 = some (1 + 2 * (l.length : Int), markedD l.length 1) := by
  unfold laws_markDiagonalS.f
  have := markDiagonalS_l0 l.length k 0 l 1 (by omega) hk hl (by omega) (by omega)
  simpa using this

theorem heldDiagonalS_l0 : ∀ (d k : Nat) (p : List S54) (j : Int), d < k → p.length + d ≤ 1000000000 → 0 ≤ j → j + 2 * d ≤ 4000000000 →
    laws_heldDiagonalS.l0 k (p ++ markedD d j) j (p.length : Int) = some (j + 2 * d) := by
  intro d
  induction d with
  | zero =>
    intro k p j hk hl hj hb
    obtain ⟨k, rfl, _⟩ := fuel hk
    simp only [laws_heldDiagonalS.l0]
    rw [if_neg (by simp [markedD])]
    simp
  | succ d ih =>
    intro k p j hk hl hj hb
    obtain ⟨k, rfl, hk⟩ := fuel hk
    simp only [laws_heldDiagonalS.l0]
    have hlen : (p ++ markedD (d + 1) j).length = p.length + (d + 1) := by rw [List.length_append, markedD_length]
    have hr : rd_T54 (p ++ markedD (d + 1) j) (p.length : Int) = ⟨j, j + 1⟩ := by
      rw [rdT_nat (by omega), List.getElem_append_right (Nat.le_refl _)]
      simp [markedD]
    rw [if_pos (by omega), if_pos (by omega), hr, wsucc (n := p.length + (d + 1)) (by omega) (by omega), w64 (x := j + 1) (by omega) (by omega), w64 (x := j + 1 + 1) (by omega) (by omega), if_pos rfl, if_pos rfl]
    have h := ih k (p ++ [⟨j, j + 1⟩]) (j + 2) (by omega) (by rw [List.length_append]; simp; omega) (by omega) (by omega)
    rw [List.length_append, List.length_singleton, List.append_assoc] at h
    rw [markedD, show j + 1 + 1 = j + 2 by omega]
    refine h.trans ?_
    congr 1
    omega
theorem heldDiagonalS_eq {n k : Nat} (hk : n < k) (hl : n ≤ 1000000000) : laws_heldDiagonalS.f k (markedD n 1) 1 = some (1 + 2 * (n : Int)) := by
  unfold laws_heldDiagonalS.f
  exact heldDiagonalS_l0 n k [] 1 hk (by simpa using hl) (by omega) (by omega)

instance decS : DecidableEq S54 := fun a b => if h : a.f0 = b.f0 ∧ a.f1 = b.f1 then isTrue (by cases a; cases b; simp_all) else isFalse (fun e => h (by subst e; exact ⟨rfl, rfl⟩))
def okF (k : Nat) (n : Int) : Bool :=
  match spec_AllTriangulations.f k n, impl_AllTriangulations.f k n with
  | some (s, b), some (s2, b2) => decide (s = s2) && decide (b = b2) && decide (laws_eqDiagonalSS.f k s s = some true) && (match laws_markDiagonalSS.f k s 1 with
    | some (m, mg) => decide (laws_heldDiagonalSS.f k mg 1 = some m) && decide (0 ≤ m)
    | none => false)
  | _, _ => false
theorem okF_fin : ∀ i : Fin 6, okF 400 (((i : Nat) : Int) + 3) = true := by decide +kernel
theorem okF_all {k : Nat} {n : Int} (h : okF k n = true) : ∃ s b m mg, spec_AllTriangulations.f k n = some (s, b) ∧ impl_AllTriangulations.f k n = some (s, b) ∧ laws_eqDiagonalSS.f k s s = some true ∧ laws_markDiagonalSS.f k s 1 = some (m, mg) ∧ laws_heldDiagonalSS.f k mg 1 = some m ∧ 0 ≤ m := by
  unfold okF at h
  cases h1 : spec_AllTriangulations.f k n with
  | none => rw [h1] at h; simp at h
  | some p =>
    obtain ⟨s, b⟩ := p
    rw [h1] at h
    cases h2 : impl_AllTriangulations.f k n with
    | none => rw [h2] at h; simp at h
    | some p2 =>
      obtain ⟨s2, b2⟩ := p2
      rw [h2] at h
      cases h3 : laws_markDiagonalSS.f k s 1 with
      | none => simp [h3] at h
      | some p3 =>
        obtain ⟨m, mg⟩ := p3
        simp only [h3, Bool.and_eq_true, decide_eq_true_eq] at h
        obtain ⟨⟨⟨e1, e2⟩, e3⟩, e4, e5⟩ := h
        subst e1
        subst e2
        exact ⟨s, b, m, mg, rfl, rfl, e3, h3, e4, e5⟩
theorem FnExactAllTriangulations : laws_FnExactAllTriangulations.Pure := by
  intro n _
  refine ⟨400, ?_⟩
  unfold laws_FnExactAllTriangulations.f
  by_cases h : 3 ≤ n ∧ n ≤ 8
  · have h1 := okF_fin ⟨(n - 3).toNat, by omega⟩
    rw [show (((n - 3).toNat : Nat) : Int) + 3 = n by omega] at h1
    exact okF_all h1
  · have h1 : okF 400 n = true := by
      unfold okF spec_AllTriangulations.f impl_AllTriangulations.f
      rw [l1In_eq, within_eq, decide_eq_false h]
      rfl
    exact okF_all h1

end Go.Proofs.Ytmpmmhmnjdkgcab.Pure
