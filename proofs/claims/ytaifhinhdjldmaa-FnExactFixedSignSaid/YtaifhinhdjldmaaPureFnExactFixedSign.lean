/- The plain statement of FnExactFixedSign, over numbers and lists: the program's answer is the reference's. -/
import Derived.Test.YtaifhinhdjldmaaPFnExactFixedSignx
set_option linter.unusedVariables false
set_option linter.unusedSimpArgs false
namespace Go.Proofs.Ytaifhinhdjldmaa.Pure
open Go.RowKit Go.Proofs.Ytaifhinhdjldmaa.PFnExactFixedSign Go.Proofs.YtaifhinhdjldmaaW.PrintWords Go.Proofs.YtaifhinhdjldmaaW.PrintLast

theorem w64 {x : Int} (h0 : -9223372036854775808 ≤ x) (h1 : x ≤ 9223372036854775807) : wrap64 x = x := by
  unfold wrap64
  omega
theorem wf_i64 {x : Int} (h : (Lit.int .i64 x).wf = true) : -9223372036854775808 ≤ x ∧ x ≤ 9223372036854775807 := by
  simp [Lit.wf, IntKind.min, IntKind.max, IntKind.signed, IntKind.bits] at h
  omega

theorem rd_nat {l : List Int} {i : Nat} (h : i < l.length) : rd l (i : Int) = l[i] := by
  unfold rd
  rw [Int.toNat_natCast, List.getD_eq_getElem?_getD, List.getElem?_eq_getElem h]
  rfl
theorem rd_drop {l : List Int} {i : Nat} (h : i < l.length) : l.drop i = rd l (i : Int) :: l.drop (i + 1) := by
  rw [rd_nat h, ← List.drop_eq_getElem_cons h]
theorem wsucc {i n : Nat} (h : i < n) (hn : n ≤ 9223372036854775807) : wrap64 ((i : Int) + 1) = ((i + 1 : Nat) : Int) := by
  rw [w64 (by omega) (by omega)]
  omega
theorem ite_t {α : Sort _} {a b : α} : (if true = true then a else b) = a := if_pos rfl
theorem ite_f {α : Sort _} {a b : α} : (if false = true then a else b) = b := if_neg (by decide)
theorem fuel {k d : Nat} (h : d < k) : ∃ m, k = m + 1 ∧ d ≤ m := ⟨k - 1, by omega, by omega⟩

theorem l1In_eq (a b c : Int) : spec_l1In.f a b c = some (decide (b ≤ a ∧ a ≤ c)) := by
  unfold spec_l1In.f
  split <;> simp <;> omega

def inAll (lo hi : Int) (l : List Int) : Bool := l.all fun x => decide (lo ≤ x ∧ x ≤ hi)
theorem l1All_l0 (lo up : Int) (l : List Int) (hl : l.length ≤ 9223372036854775807) : ∀ (d k i : Nat), i + d = l.length → d < k → spec_l1All.l0 k lo up l (l.length : Int) (i : Int) = some (inAll lo up (l.drop i)) := by
  intro d
  induction d with
  | zero =>
    intro k i hi hk
    obtain ⟨k, rfl, _⟩ := fuel hk
    simp only [spec_l1All.l0]
    rw [if_neg (by omega), List.drop_of_length_le (by omega)]
    rfl
  | succ d ih =>
    intro k i hi hk
    obtain ⟨k, rfl, hk⟩ := fuel hk
    simp only [spec_l1All.l0]
    rw [if_pos (by omega), if_pos (by omega), if_pos (by omega), l1In_eq, Option.bind_some, wsucc (n := l.length) (by omega) hl, rd_drop (by omega)]
    by_cases hx : lo ≤ rd l i ∧ rd l i ≤ up
    · rw [decide_eq_true hx, ite_t, ih k (i + 1) (by omega) (by omega)]
      simp [inAll, hx]
    · rw [decide_eq_false hx, ite_f]
      simp [inAll]
      omega
theorem l1All_eq {l : List Int} {k : Nat} (lo hi : Int) (hl : l.length ≤ 9223372036854775807) (hk : l.length < k) : spec_l1All.f k l lo hi = some (inAll lo hi l) := by
  unfold spec_l1All.f
  exact l1All_l0 lo hi l hl l.length k 0 (by omega) hk

theorem within_eq (a b c : Int) : impl_within.f a b c = some (decide (b ≤ a ∧ a ≤ c)) := by
  unfold impl_within.f
  split <;> simp <;> omega

theorem some_f {p : Prop} [Decidable p] (h : ¬ p) : some false = some (decide p) := by rw [decide_eq_false h]
theorem some_t {p : Prop} [Decidable p] (h : p) : some true = some (decide p) := by rw [decide_eq_true h]
theorem some_d {p q : Prop} [Decidable p] [Decidable q] (h : p ↔ q) : some (decide p) = some (decide q) := by rw [decide_eq_decide.2 h]
theorem some_b {b : Bool} {p : Prop} [Decidable p] (h : b = true ↔ p) : some b = some (decide p) := by
  congr 1
  rw [Bool.eq_iff_iff, h, decide_eq_true_iff]

def inEnt (a : Int) : Prop := -1000000000 ≤ a ∧ a ≤ 1000000000
instance (a : Int) : Decidable (inEnt a) := by unfold inEnt; infer_instance
def isMat (a b c d : Int) : Bool := decide (inEnt a ∧ inEnt b ∧ inEnt c ∧ inEnt d) && (wrap64 (wrap64 (a * d) - wrap64 (b * c)) == 1)
theorem isEntry_eq (a : Int) : impl_isEntry.f a = some (decide (inEnt a)) := by
  unfold impl_isEntry.f
  rw [within_eq]
  rfl
theorem IsMatrix_eq (a b c d : Int) : impl_IsMatrix.f a b c d = some (isMat a b c d) := by
  unfold impl_IsMatrix.f isMat
  simp only [isEntry_eq, Option.bind_some, decide_eq_true_eq]
  by_cases h1 : inEnt a <;> by_cases h2 : inEnt b <;> by_cases h3 : inEnt c <;> by_cases h4 : inEnt d <;> simp [h1, h2, h3, h4]
theorem mxGood_eq (a b c d : Int) {k : Nat} (hk : 4 < k) : spec_mxGood.f k a b c d = some (isMat a b c d) := by
  unfold spec_mxGood.f isMat
  rw [l1All_eq _ _ (by simp) (by simpa using hk), Option.bind_some]
  have e : inAll (-1000000000) 1000000000 [a, b, c, d] = decide (inEnt a ∧ inEnt b ∧ inEnt c ∧ inEnt d) := by
    unfold inEnt
    rw [Bool.eq_iff_iff]
    simp [inAll]
  rw [e]
  by_cases h : inEnt a ∧ inEnt b ∧ inEnt c ∧ inEnt d
  · rw [decide_eq_true h]; rfl
  · rw [decide_eq_false h]; rfl
theorem isMat_ent {a b c d : Int} (h : isMat a b c d = true) : inEnt a ∧ inEnt b ∧ inEnt c ∧ inEnt d := by
  unfold isMat at h
  simp only [Bool.and_eq_true, decide_eq_true_eq] at h
  exact h.1

theorem FnExactFixedSign : laws_FnExactFixedSign.Pure := by
  intro a b c d _ _ _ _
  refine ⟨5, ?_⟩
  unfold laws_FnExactFixedSign.f laws_toMatrix.f spec_FixedSign.f impl_FixedSign.f spec_l1Abs.f spec_l1Most.f spec_l1Sign.f impl_size.f
  simp only [Option.bind_some, mxGood_eq _ _ _ _ (show 4 < 5 by decide), IsMatrix_eq]
  cases h : isMat a b c d with
  | false => simp
  | true =>
    obtain ⟨ha, _, _, hd⟩ := isMat_ent h
    unfold inEnt at ha hd
    rw [w64 (x := a + d) (by omega) (by omega), w64 (x := -(a + d)) (by omega) (by omega)]
    have hm : ∀ t : Int, (if t > -t then some t else some (-t)) = some (mx t (-t)) := by
      intro t
      unfold mx
      split <;> split <;> first | rfl | (congr 1; omega)
    simp only [reduceIte, hm, Option.bind_some]
    have hb : 0 ≤ mx (a + d) (-(a + d)) ∧ mx (a + d) (-(a + d)) ≤ 2000000000 := by unfold mx; split <;> omega
    generalize mx (a + d) (-(a + d)) = t at hb
    rw [w64 (x := t - 2) (by omega) (by omega)]
    by_cases h1 : t < 2
    · simp [h1, show ¬ (2 < t) by omega, show ¬ (t - 2 > 0) by omega, show t - 2 < 0 by omega]
    · by_cases h2 : t > 2
      · simp [h1, h2, show 2 < t by omega, show t - 2 > 0 by omega]
      · simp [h1, h2, show ¬ (2 < t) by omega, show ¬ (t - 2 > 0) by omega, show ¬ (t - 2 < 0) by omega]

end Go.Proofs.Ytaifhinhdjldmaa.Pure
