/- The plain statement of FnExactPowerMatrix, over numbers and lists: the program's answer is the reference's. -/
import Derived.Test.YtmpmmhmnjdkgcaaPFnExactPowerMatrixx
set_option linter.unusedVariables false
set_option linter.unusedSimpArgs false
namespace Go.Proofs.Ytmpmmhmnjdkgcaa.Pure
open Go.RowKit Go.Proofs.Ytmpmmhmnjdkgcaa.PFnExactPowerMatrix Go.Proofs.YtmpmmhmnjdkgcaaW.PrintWords Go.Proofs.YtmpmmhmnjdkgcaaW.PrintLast

theorem w64 {x : Int} (h0 : -9223372036854775808 ≤ x) (h1 : x ≤ 9223372036854775807) : wrap64 x = x := by
  unfold wrap64
  omega
theorem wf_i64 {x : Int} (h : (Lit.int .i64 x).wf = true) : -9223372036854775808 ≤ x ∧ x ≤ 9223372036854775807 := by
  simp [Lit.wf, IntKind.min, IntKind.max, IntKind.signed, IntKind.bits] at h
  omega

theorem rd_nat {l : List Int} {i : Nat} (h : i < l.length) : rd l (i : Int) = l[i] := by
  unfold rd
  rw [Int.toNat_natCast, List.getD_eq_getElem?_getD, List.getElem?_eq_getElem h]
  rfl
theorem rd_drop {l : List Int} {i : Nat} (h : i < l.length) : l.drop i = rd l (i : Int) :: l.drop (i + 1) := by
  rw [rd_nat h, ← List.drop_eq_getElem_cons h]
theorem wsucc {i n : Nat} (h : i < n) (hn : n ≤ 9223372036854775807) : wrap64 ((i : Int) + 1) = ((i + 1 : Nat) : Int) := by
  rw [w64 (by omega) (by omega)]
  omega
theorem ite_t {α : Sort _} {a b : α} : (if true = true then a else b) = a := if_pos rfl
theorem ite_f {α : Sort _} {a b : α} : (if false = true then a else b) = b := if_neg (by decide)
theorem fuel {k d : Nat} (h : d < k) : ∃ m, k = m + 1 ∧ d ≤ m := ⟨k - 1, by omega, by omega⟩

theorem l1In_eq (a b c : Int) : spec_l1In.f a b c = some (decide (b ≤ a ∧ a ≤ c)) := by
  unfold spec_l1In.f
  split <;> simp <;> omega

def inAll (lo hi : Int) (l : List Int) : Bool := l.all fun x => decide (lo ≤ x ∧ x ≤ hi)
theorem l1All_l0 (lo up : Int) (l : List Int) (hl : l.length ≤ 9223372036854775807) : ∀ (d k i : Nat), i + d = l.length → d < k → spec_l1All.l0 k lo up l (l.length : Int) (i : Int) = some (inAll lo up (l.drop i)) := by
  intro d
  induction d with
  | zero =>
    intro k i hi hk
    obtain ⟨k, rfl, _⟩ := fuel hk
    simp only [spec_l1All.l0]
    rw [if_neg (by omega), List.drop_of_length_le (by omega)]
    rfl
  | succ d ih =>
    intro k i hi hk
    obtain ⟨k, rfl, hk⟩ := fuel hk
    simp only [spec_l1All.l0]
    rw [if_pos (by omega), if_pos (by omega), if_pos (by omega), l1In_eq, Option.bind_some, wsucc (n := l.length) (by omega) hl, rd_drop (by omega)]
    by_cases hx : lo ≤ rd l i ∧ rd l i ≤ up
    · rw [decide_eq_true hx, ite_t, ih k (i + 1) (by omega) (by omega)]
      simp [inAll, hx]
    · rw [decide_eq_false hx, ite_f]
      simp [inAll]
      omega
theorem l1All_eq {l : List Int} {k : Nat} (lo hi : Int) (hl : l.length ≤ 9223372036854775807) (hk : l.length < k) : spec_l1All.f k l lo hi = some (inAll lo hi l) := by
  unfold spec_l1All.f
  exact l1All_l0 lo hi l hl l.length k 0 (by omega) hk

theorem within_eq (a b c : Int) : impl_within.f a b c = some (decide (b ≤ a ∧ a ≤ c)) := by
  unfold impl_within.f
  split <;> simp <;> omega

theorem some_f {p : Prop} [Decidable p] (h : ¬ p) : some false = some (decide p) := by rw [decide_eq_false h]
theorem some_t {p : Prop} [Decidable p] (h : p) : some true = some (decide p) := by rw [decide_eq_true h]
theorem some_d {p q : Prop} [Decidable p] [Decidable q] (h : p ↔ q) : some (decide p) = some (decide q) := by rw [decide_eq_decide.2 h]
theorem some_b {b : Bool} {p : Prop} [Decidable p] (h : b = true ↔ p) : some b = some (decide p) := by
  congr 1
  rw [Bool.eq_iff_iff, h, decide_eq_true_iff]

def inEnt (a : Int) : Prop := -1000000000 ≤ a ∧ a ≤ 1000000000
instance (a : Int) : Decidable (inEnt a) := by unfold inEnt; infer_instance
def isMat (a b c d : Int) : Bool := decide (inEnt a ∧ inEnt b ∧ inEnt c ∧ inEnt d) && (wrap64 (wrap64 (a * d) - wrap64 (b * c)) == 1)
theorem isEntry_eq (a : Int) : impl_isEntry.f a = some (decide (inEnt a)) := by
  unfold impl_isEntry.f
  rw [within_eq]
  rfl
theorem IsMatrix_eq (a b c d : Int) : impl_IsMatrix.f a b c d = some (isMat a b c d) := by
  unfold impl_IsMatrix.f isMat
  simp only [isEntry_eq, Option.bind_some, decide_eq_true_eq]
  by_cases h1 : inEnt a <;> by_cases h2 : inEnt b <;> by_cases h3 : inEnt c <;> by_cases h4 : inEnt d <;> simp [h1, h2, h3, h4]
theorem mxGood_eq (a b c d : Int) {k : Nat} (hk : 4 < k) : spec_mxGood.f k a b c d = some (isMat a b c d) := by
  unfold spec_mxGood.f isMat
  rw [l1All_eq _ _ (by simp) (by simpa using hk), Option.bind_some]
  have e : inAll (-1000000000) 1000000000 [a, b, c, d] = decide (inEnt a ∧ inEnt b ∧ inEnt c ∧ inEnt d) := by
    unfold inEnt
    rw [Bool.eq_iff_iff]
    simp [inAll]
  rw [e]
  by_cases h : inEnt a ∧ inEnt b ∧ inEnt c ∧ inEnt d
  · rw [decide_eq_true h]; rfl
  · rw [decide_eq_false h]; rfl
theorem isMat_ent {a b c d : Int} (h : isMat a b c d = true) : inEnt a ∧ inEnt b ∧ inEnt c ∧ inEnt d := by
  unfold isMat at h
  simp only [Bool.and_eq_true, decide_eq_true_eq] at h
  exact h.1

theorem mxIf_eq (a b c d : Int) {k : Nat} (hk : 4 < k) : spec_mxIf.f k a b c d = some (if isMat a b c d = true then (a, b, c, d, true) else (0, 0, 0, 0, false)) := by
  unfold spec_mxIf.f
  rw [mxGood_eq _ _ _ _ hk, Option.bind_some]
  cases isMat a b c d <;> rfl
theorem checked_eq (a b c d : Int) : impl_checked.f a b c d = some (if isMat a b c d = true then (a, b, c, d, true) else (0, 0, 0, 0, false)) := by
  unfold impl_checked.f
  rw [IsMatrix_eq, Option.bind_some]
  cases isMat a b c d <;> rfl

theorem eqMatrix_self (a b c d : Int) : laws_eqMatrix.f a b c d a b c d = some true := by
  unfold laws_eqMatrix.f
  simp

theorem mul_bd {x y : Int} {N M : Nat} (hx : x.natAbs ≤ N) (hy : y.natAbs ≤ M) : (x * y).natAbs ≤ N * M := by
  rw [Int.natAbs_mul]
  exact Nat.mul_le_mul hx hy
theorem abs_of_ent {a : Int} (h : inEnt a) : a.natAbs ≤ 1000000000 := by
  unfold inEnt at h
  omega
theorem ent_iff {a : Int} : inEnt a ↔ a.natAbs ≤ 1000000000 := by
  unfold inEnt
  omega
/-- Entries of a matrix: the determinant is one without any wrap. -/
theorem isMat_iff (a b c d : Int) : isMat a b c d = true ↔ (inEnt a ∧ inEnt b ∧ inEnt c ∧ inEnt d) ∧ a * d - b * c = 1 := by
  unfold isMat
  simp only [Bool.and_eq_true, decide_eq_true_eq, beq_iff_eq]
  constructor
  · rintro ⟨⟨ha, hb, hc, hd⟩, h⟩
    have h1 := mul_bd (abs_of_ent ha) (abs_of_ent hd)
    have h2 := mul_bd (abs_of_ent hb) (abs_of_ent hc)
    rw [w64 (x := a * d) (by omega) (by omega), w64 (x := b * c) (by omega) (by omega), w64 (by omega) (by omega)] at h
    exact ⟨⟨ha, hb, hc, hd⟩, h⟩
  · rintro ⟨⟨ha, hb, hc, hd⟩, h⟩
    have h1 := mul_bd (abs_of_ent ha) (abs_of_ent hd)
    have h2 := mul_bd (abs_of_ent hb) (abs_of_ent hc)
    refine ⟨⟨ha, hb, hc, hd⟩, ?_⟩
    rw [w64 (x := a * d) (by omega) (by omega), w64 (x := b * c) (by omega) (by omega), w64 (by omega) (by omega)]
    exact h
theorem size_eq {x : Int} (h0 : -9223372036854775807 ≤ x) (h1 : x ≤ 9223372036854775807) : impl_size.f x = some (x.natAbs : Int) := by
  unfold impl_size.f
  rw [w64 (x := -x) (by omega) (by omega)]
  unfold mx
  congr 1
  split <;> omega
section
variable {a b c d : Int}
/-- A linear combination with small parts does not wrap. -/
theorem lin_w {u v x : Int} (hu : u.natAbs ≤ 2000000000) (hx : x.natAbs ≤ 2000000000) (hv : v.natAbs ≤ 2000000000) : wrap64 (wrap64 (u * x) - v) = u * x - v := by
  have h1 := mul_bd hu hx
  rw [w64 (x := u * x) (by omega) (by omega), w64 (by omega) (by omega)]
theorem mul_w {u x : Int} (hu : u.natAbs ≤ 2000000000) (hx : x.natAbs ≤ 2000000000) : wrap64 (u * x) = u * x := by
  have h1 := mul_bd hu hx
  rw [w64 (by omega) (by omega)]
theorem two_w {x y z q : Int} (hx : x.natAbs ≤ 1000000000) (hy : y.natAbs ≤ 1000000000) (hz : z.natAbs ≤ 1000000000) (hq : q.natAbs ≤ 1000000000) : wrap64 (wrap64 (x * y) + wrap64 (z * q)) = x * y + z * q := by
  have h1 := mul_bd hx hy
  have h2 := mul_bd hz hq
  rw [w64 (x := x * y) (by omega) (by omega), w64 (x := z * q) (by omega) (by omega), w64 (by omega) (by omega)]
theorem det_comb (hdet : a * d - b * c = 1) (u v : Int) (hv : u * u - (a + d) * u * v + v * v = 1) : (u * a - v) * (u * d - v) - (u * b) * (u * c) = 1 := by
  grind
theorem step_a (hdet : a * d - b * c = 1) (u v : Int) : (u * a - v) * a + (u * b) * c = ((a + d) * u - v) * a - u := by grind
theorem step_b (hdet : a * d - b * c = 1) (u v : Int) : (u * a - v) * b + (u * b) * d = ((a + d) * u - v) * b := by grind
theorem step_c (hdet : a * d - b * c = 1) (u v : Int) : (u * c) * a + (u * d - v) * c = ((a + d) * u - v) * c := by grind
theorem step_d (hdet : a * d - b * c = 1) (u v : Int) : (u * c) * b + (u * d - v) * d = ((a + d) * u - v) * d - u := by grind
end

section
variable {a b c d : Int}
/-- What is known of two numbers behind each other, U(j-1) = v and U(j) = u. -/
def PInv (a b c d u v : Int) (j : Int) : Prop :=
  u.natAbs ≤ 2000000000 ∧ v.natAbs ≤ 2000000000 ∧ u * u - (a + d) * u * v + v * v = 1 ∧
  (b = 0 → c = 0 → (a = 1 ∧ d = 1 ∧ u = j ∧ v = j - 1) ∨ (a = -1 ∧ d = -1 ∧ ((u = j ∧ v = 1 - j) ∨ (u = -j ∧ v = j - 1)))) ∧
  ((a + d = 0 → (v = -1 ∧ u = 0) ∨ (v = 0 ∧ u = 1) ∨ (v = 1 ∧ u = 0) ∨ (v = 0 ∧ u = -1)) ∧
   (a + d = 1 → (v = -1 ∧ u = 0) ∨ (v = 0 ∧ u = 1) ∨ (v = 1 ∧ u = 1) ∨ (v = 1 ∧ u = 0) ∨ (v = 0 ∧ u = -1) ∨ (v = -1 ∧ u = -1)) ∧
   (a + d = -1 → (v = -1 ∧ u = 0) ∨ (v = 0 ∧ u = 1) ∨ (v = 1 ∧ u = -1)))
theorem next_inv (hdet : a * d - b * c = 1) {u v j : Int} (h : PInv a b c d u v j) (hj : 0 ≤ j) (hj2 : j ≤ 100)
    (hb : ((((a + d) * u - v) * b).natAbs ≤ 1000000000)) (hc : ((((a + d) * u - v) * c).natAbs ≤ 1000000000)) : PInv a b c d ((a + d) * u - v) u (j + 1) := by
  obtain ⟨h1, h2, h3, h4, h5, h6, h7⟩ := h
  have hbc : b = 0 → c = 0 → (a = 1 ∧ d = 1 ∧ (a + d) * u - v = j + 1 ∧ u = j + 1 - 1) ∨ (a = -1 ∧ d = -1 ∧ (((a + d) * u - v = j + 1 ∧ u = 1 - (j + 1)) ∨ ((a + d) * u - v = -(j + 1) ∧ u = j + 1 - 1))) := by
    intro eb ec
    rcases h4 eb ec with ⟨rfl, rfl, rfl, rfl⟩ | ⟨rfl, rfl, ⟨rfl, rfl⟩ | ⟨rfl, rfl⟩⟩
    · left; omega
    · right; omega
    · right; omega
  refine ⟨?_, h1, ?_, hbc, ?_, ?_, ?_⟩
  · by_cases eb : b = 0
    · by_cases ec : c = 0
      · rcases hbc eb ec with ⟨_, _, e, _⟩ | ⟨_, _, ⟨e, _⟩ | ⟨e, _⟩⟩ <;> omega
      · have : ((a + d) * u - v).natAbs * 1 ≤ ((a + d) * u - v).natAbs * c.natAbs := Nat.mul_le_mul_left _ (by omega)
        rw [Int.natAbs_mul] at hc
        omega
    · have : ((a + d) * u - v).natAbs * 1 ≤ ((a + d) * u - v).natAbs * b.natAbs := Nat.mul_le_mul_left _ (by omega)
      rw [Int.natAbs_mul] at hb
      omega
  · grind
  · intro e
    rw [e]
    rcases h5 e with h | h | h | h <;> omega
  · intro e
    rw [e]
    rcases h6 e with h | h | h | h | h | h <;> omega
  · intro e
    rw [e]
    rcases h7 e with h | h | h <;> omega
/-- The entries of the power at hand. -/
def EntIn (a b c d u v : Int) : Prop := (u * a - v).natAbs ≤ 1000000000 ∧ (u * b).natAbs ≤ 1000000000 ∧ (u * c).natAbs ≤ 1000000000 ∧ (u * d - v).natAbs ≤ 1000000000
instance (a b c d u v : Int) : Decidable (EntIn a b c d u v) := by unfold EntIn; infer_instance
theorem small_trace (hm : isMat a b c d = true) {u v j : Int} (h : PInv a b c d u v j) (ht : (a + d).natAbs ≤ 1) : EntIn a b c d u v := by
  obtain ⟨⟨ha, hb, hc, hd⟩, hdet⟩ := (isMat_iff a b c d).1 hm
  rw [ent_iff] at ha hb hc hd
  obtain ⟨_, _, _, _, h5, h6, h7⟩ := h
  unfold EntIn
  have : a + d = 0 ∨ a + d = 1 ∨ a + d = -1 := by omega
  rcases this with e | e | e
  · rcases h5 e with ⟨rfl, rfl⟩ | ⟨rfl, rfl⟩ | ⟨rfl, rfl⟩ | ⟨rfl, rfl⟩ <;> simp only [Int.zero_mul, Int.one_mul, Int.neg_mul] <;> omega
  · rcases h6 e with ⟨rfl, rfl⟩ | ⟨rfl, rfl⟩ | ⟨rfl, rfl⟩ | ⟨rfl, rfl⟩ | ⟨rfl, rfl⟩ | ⟨rfl, rfl⟩ <;> simp only [Int.zero_mul, Int.one_mul, Int.neg_mul] <;> omega
  · rcases h7 e with ⟨rfl, rfl⟩ | ⟨rfl, rfl⟩ | ⟨rfl, rfl⟩ <;> simp only [Int.zero_mul, Int.one_mul, Int.neg_mul] <;> omega
/-- One entry that has grown too great: by which and how it was before. -/
def Grown1 (a b c d u v : Int) : Prop :=
  (1000000000 < (u * a - v).natAbs ∧ (u - v * d).natAbs ≤ (u * a - v).natAbs) ∨ (1000000000 < (u * d - v).natAbs ∧ (u - v * a).natAbs ≤ (u * d - v).natAbs) ∨
  (1000000000 < (u * b).natAbs ∧ (v * b).natAbs ≤ (u * b).natAbs) ∨ (1000000000 < (u * c).natAbs ∧ (v * c).natAbs ≤ (u * c).natAbs)
theorem grow_abs {t x p : Int} (ht : 2 ≤ t.natAbs) (hp : p.natAbs ≤ x.natAbs) : x.natAbs ≤ (t * x - p).natAbs := by
  have h1 : x.natAbs * 2 ≤ (t * x).natAbs := by
    rw [Int.natAbs_mul, Nat.mul_comm]
    exact Nat.mul_le_mul_right _ ht
  omega
theorem grown_next (ht : 2 ≤ (a + d).natAbs) {u v : Int} (h : Grown1 a b c d u v) : Grown1 a b c d ((a + d) * u - v) u := by
  have e1 : ((a + d) * u - v) * a - u = (a + d) * (u * a - v) - (u - v * d) := by grind
  have e2 : ((a + d) * u - v) - u * d = u * a - v := by grind
  have e3 : ((a + d) * u - v) * d - u = (a + d) * (u * d - v) - (u - v * a) := by grind
  have e4 : ((a + d) * u - v) - u * a = u * d - v := by grind
  have e5 : ((a + d) * u - v) * b = (a + d) * (u * b) - v * b := by grind
  have e6 : ((a + d) * u - v) * c = (a + d) * (u * c) - v * c := by grind
  unfold Grown1
  rw [e1, e2, e3, e4, e5, e6]
  rcases h with ⟨h1, h2⟩ | ⟨h1, h2⟩ | ⟨h1, h2⟩ | ⟨h1, h2⟩
  · have := grow_abs ht h2; exact .inl ⟨by omega, by omega⟩
  · have := grow_abs ht h2; exact .inr (.inl ⟨by omega, by omega⟩)
  · have := grow_abs ht h2; exact .inr (.inr (.inl ⟨by omega, by omega⟩))
  · have := grow_abs ht h2; exact .inr (.inr (.inr ⟨by omega, by omega⟩))
theorem grown_first {u v : Int} (hi : EntIn a b c d u v) (ho : ¬ EntIn a b c d ((a + d) * u - v) u) : Grown1 a b c d ((a + d) * u - v) u := by
  have e2 : ((a + d) * u - v) - u * d = u * a - v := by grind
  have e4 : ((a + d) * u - v) - u * a = u * d - v := by grind
  unfold Grown1
  rw [e2, e4]
  unfold EntIn at hi ho
  omega
theorem not_ent {u v : Int} (h : Grown1 a b c d u v) : ¬ EntIn a b c d u v := by
  unfold Grown1 at h
  unfold EntIn
  omega
end
/-- The last step of the program's loop. -/
def fin (a b c d : Int) : Int × Int × Int × Int × Bool := if isMat a b c d = true then (a, b, c, d, true) else (0, 0, 0, 0, false)
theorem power_l0_end {a b c d u v t n i : Int} {k : Nat} (h : ¬ i < n) : impl_power.l0 (k + 1) v u t n i a b c d = some (fin (wrap64 (wrap64 (u * a) - v)) (wrap64 (u * b)) (wrap64 (u * c)) (wrap64 (wrap64 (u * d) - v))) := by
  simp only [impl_power.l0]
  rw [if_neg h, checked_eq, Option.bind_some]
  rfl
theorem fin_ent {a b c d : Int} (hm : isMat a b c d = true) {u v j : Int} (h : PInv a b c d u v j) :
    fin (wrap64 (wrap64 (u * a) - v)) (wrap64 (u * b)) (wrap64 (u * c)) (wrap64 (wrap64 (u * d) - v)) = if EntIn a b c d u v then (u * a - v, u * b, u * c, u * d - v, true) else (0, 0, 0, 0, false) := by
  obtain ⟨⟨ha, hb, hc, hd⟩, hdet⟩ := (isMat_iff a b c d).1 hm
  rw [ent_iff] at ha hb hc hd
  obtain ⟨h1, h2, h3, _⟩ := h
  rw [lin_w h1 (by omega) h2, lin_w h1 (by omega) h2, mul_w h1 (by omega), mul_w h1 (by omega)]
  have hdet2 := det_comb hdet u v h3
  unfold fin
  have e : isMat (u * a - v) (u * b) (u * c) (u * d - v) = true ↔ EntIn a b c d u v := by
    rw [isMat_iff]
    simp only [ent_iff]
    exact ⟨fun h => h.1, fun h => ⟨h, hdet2⟩⟩
  by_cases he : EntIn a b c d u v
  · rw [if_pos (e.2 he), if_pos he]
  · rw [if_neg (fun z => he (e.1 z)), if_neg he]
theorem next_w {a b c d u v : Int} (hm : isMat a b c d = true) (hu : u.natAbs ≤ 2000000000) (hv : v.natAbs ≤ 2000000000) : wrap64 (wrap64 ((a + d) * u) - v) = (a + d) * u - v := by
  obtain ⟨⟨ha, hb, hc, hd⟩, hdet⟩ := (isMat_iff a b c d).1 hm
  rw [ent_iff] at ha hb hc hd
  rw [Int.mul_comm (a + d) u]
  exact lin_w hu (by omega) hv
theorem next_bd {a b c d u v : Int} (hm : isMat a b c d = true) (hu : u.natAbs ≤ 2000000000) (hv : v.natAbs ≤ 2000000000) : ((a + d) * u - v).natAbs ≤ 5000000000000000000 := by
  obtain ⟨⟨ha, hb, hc, hd⟩, hdet⟩ := (isMat_iff a b c d).1 hm
  rw [ent_iff] at ha hb hc hd
  have := mul_bd (x := a + d) (y := u) (N := 2000000000) (by omega) hu
  omega
theorem power_step {a b c d u v n i : Int} {k : Nat} (hm : isMat a b c d = true) (h : i < n) (hi : 0 ≤ i) (hn : n ≤ 100) (hu : u.natAbs ≤ 2000000000) (hv : v.natAbs ≤ 2000000000) :
    impl_power.l0 (k + 1) v u (a + d) n i a b c d = if (((a + d) * u - v).natAbs : Int) > 2000000000 then some (0, 0, 0, 0, false) else impl_power.l0 k u ((a + d) * u - v) (a + d) n (i + 1) a b c d := by
  have hb := next_bd hm hu hv
  simp only [impl_power.l0]
  rw [if_pos h, next_w hm hu hv, size_eq (by omega) (by omega), Option.bind_some, w64 (x := i + 1) (by omega) (by omega)]
/-- Once an entry is too great, no later power is a matrix. -/
theorem power_dead {a b c d : Int} (hm : isMat a b c d = true) (ht : 2 ≤ (a + d).natAbs) : ∀ (r k : Nat) (u v i n : Int), i + r = n → 0 ≤ i → n ≤ 100 → r < k → Grown1 a b c d u v → u.natAbs ≤ 2000000000 → v.natAbs ≤ 2000000000 →
    impl_power.l0 k v u (a + d) n i a b c d = some (0, 0, 0, 0, false) := by
  intro r
  induction r with
  | zero =>
    intro k u v i n hi h0 hn hk hg hu hv
    obtain ⟨k, rfl, _⟩ : ∃ m, k = m + 1 ∧ 0 ≤ m := ⟨k - 1, by omega, by omega⟩
    obtain ⟨⟨ha, hb, hc, hd⟩, hdet⟩ := (isMat_iff a b c d).1 hm
    rw [ent_iff] at ha hb hc hd
    rw [power_l0_end (by omega), lin_w hu (by omega) hv, lin_w hu (by omega) hv, mul_w hu (by omega), mul_w hu (by omega)]
    unfold fin
    rw [if_neg]
    intro he
    have := ((isMat_iff _ _ _ _).1 he).1
    simp only [ent_iff] at this
    exact not_ent hg this
  | succ r ih =>
    intro k u v i n hi h0 hn hk hg hu hv
    obtain ⟨k, rfl, _⟩ : ∃ m, k = m + 1 ∧ 0 ≤ m := ⟨k - 1, by omega, by omega⟩
    rw [power_step hm (by omega) h0 hn hu hv]
    by_cases hx : (((a + d) * u - v).natAbs : Int) > 2000000000
    · rw [if_pos hx]
    · rw [if_neg hx]
      exact ih k _ u (i + 1) n (by omega) (by omega) hn (by omega) (grown_next ht hg) (by omega) hu
theorem power_same {a b c d : Int} (hm : isMat a b c d = true) : ∀ (r k q : Nat) (u v i n : Int), i + r = n → 0 ≤ i → n ≤ 100 → r < k → r + 5 < q → PInv a b c d u v i → EntIn a b c d u v →
    impl_power.l0 k v u (a + d) n i a b c d = spec_PowerMatrix.l0 q r a b c d (u * a - v) (u * b) (u * c) (u * d - v) := by
  obtain ⟨⟨ha, hb, hc, hd⟩, hdet⟩ := (isMat_iff a b c d).1 hm
  rw [ent_iff] at ha hb hc hd
  intro r
  induction r with
  | zero =>
    intro k q u v i n hi h0 hn hk hq hp he
    obtain ⟨k, rfl, _⟩ : ∃ m, k = m + 1 ∧ 0 ≤ m := ⟨k - 1, by omega, by omega⟩
    obtain ⟨q, rfl, _⟩ : ∃ m, q = m + 1 ∧ 0 ≤ m := ⟨q - 1, by omega, by omega⟩
    rw [power_l0_end (by omega), fin_ent hm hp, if_pos he]
    simp [spec_PowerMatrix.l0]
  | succ r ih =>
    intro k q u v i n hi h0 hn hk hq hp he
    obtain ⟨k, rfl, _⟩ : ∃ m, k = m + 1 ∧ 0 ≤ m := ⟨k - 1, by omega, by omega⟩
    obtain ⟨q, rfl, hq4⟩ : ∃ m, q = m + 1 ∧ 4 < m := ⟨q - 1, by omega, by omega⟩
    have hp' := hp
    obtain ⟨hu, hv, h3, _⟩ := hp'
    obtain ⟨e1, e2, e3, e4⟩ := he
    rw [power_step hm (by omega) h0 hn hu hv]
    simp only [spec_PowerMatrix.l0]
    unfold spec_mxTimes.f
    rw [if_pos (show ((r + 1 : Nat) : Int) > 0 by omega)]
    simp only [Option.bind_some]
    rw [two_w e1 ha e2 hc, two_w e1 hb e2 hd, two_w e3 ha e4 hc, two_w e3 hb e4 hd, step_a hdet, step_b hdet, step_c hdet, step_d hdet, mxIf_eq _ _ _ _ hq4, Option.bind_some]
    have hstep : ((r + 1 : Nat) : Int) - 1 = (r : Nat) := by omega
    rw [w64 (x := ((r + 1 : Nat) : Int) - 1) (by omega) (by omega), hstep]
    have hinv3 : ((a + d) * u - v) * ((a + d) * u - v) - (a + d) * ((a + d) * u - v) * u + u * u = 1 := by grind
    have hdet2 := det_comb hdet ((a + d) * u - v) u hinv3
    by_cases hE : EntIn a b c d ((a + d) * u - v) u
    · have hinv := next_inv hdet hp h0 (by omega) hE.2.1 hE.2.2.1
      have hM : isMat (((a + d) * u - v) * a - u) (((a + d) * u - v) * b) (((a + d) * u - v) * c) (((a + d) * u - v) * d - u) = true := by
        rw [isMat_iff]
        simp only [ent_iff]
        exact ⟨hE, hdet2⟩
      rw [if_pos hM, if_neg (by have := hinv.1; omega)]
      simp only [if_true]
      exact ih k q _ u (i + 1) n (by omega) (by omega) hn (by omega) (by omega) hinv hE
    · have hM : ¬ isMat (((a + d) * u - v) * a - u) (((a + d) * u - v) * b) (((a + d) * u - v) * c) (((a + d) * u - v) * d - u) = true := by
        rw [isMat_iff]
        simp only [ent_iff]
        exact fun h => hE h.1
      rw [if_neg hM]
      simp only [Bool.false_eq_true, if_false]
      have ht : 2 ≤ (a + d).natAbs := by
        by_cases ht : 2 ≤ (a + d).natAbs
        · exact ht
        · exfalso
          obtain ⟨h1, h2, h3, h4, h5, h6, h7⟩ := hp
          refine hE (small_trace (j := i + 1) hm ?_ (by omega))
          have : a + d = 0 ∨ a + d = 1 ∨ a + d = -1 := by omega
          have hnb : ¬ (b = 0 ∧ c = 0) := by
            rintro ⟨rfl, rfl⟩
            rcases h4 rfl rfl with ⟨rfl, rfl, _⟩ | ⟨rfl, rfl, _⟩ <;> omega
          refine ⟨?_, h1, hinv3, fun eb ec => absurd ⟨eb, ec⟩ hnb, ?_, ?_, ?_⟩
          · rcases this with e | e | e
            · rw [e]; rcases h5 e with h | h | h | h <;> omega
            · rw [e]; rcases h6 e with h | h | h | h | h | h <;> omega
            · rw [e]; rcases h7 e with h | h | h <;> omega
          · intro e; rw [e]; rcases h5 e with h | h | h | h <;> omega
          · intro e; rw [e]; rcases h6 e with h | h | h | h | h | h <;> omega
          · intro e; rw [e]; rcases h7 e with h | h | h <;> omega
      by_cases hx : (((a + d) * u - v).natAbs : Int) > 2000000000
      · rw [if_pos hx]
      · rw [if_neg hx]
        exact power_dead hm ht r k _ u (i + 1) n (by omega) (by omega) hn (by omega) (grown_first ⟨e1, e2, e3, e4⟩ hE) (by omega) hu
theorem power_eq {a b c d n : Int} (hm : isMat a b c d = true) (h0 : 0 ≤ n) (hn : n ≤ 20) {k q : Nat} (hk : 30 ≤ k) (hq : 30 ≤ q) : impl_power.f k a b c d n = spec_PowerMatrix.l0 q n a b c d 1 0 0 1 := by
  obtain ⟨⟨ha, hb, hc, hd⟩, hdet⟩ := (isMat_iff a b c d).1 hm
  have ha' := ha
  have hd' := hd
  rw [ent_iff] at ha' hd'
  unfold impl_power.f
  rw [w64 (x := a + d) (by omega) (by omega)]
  have hE : EntIn a b c d 0 (-1) := by
    unfold EntIn
    simp
  have hP : PInv a b c d 0 (-1) 0 := by
    refine ⟨by simp, by simp, by simp, ?_, fun _ => .inl ⟨rfl, rfl⟩, fun _ => .inl ⟨rfl, rfl⟩, fun _ => .inl ⟨rfl, rfl⟩⟩
    rintro rfl rfl
    simp at hdet
    have : (a = 1 ∧ d = 1) ∨ (a = -1 ∧ d = -1) := by
      have h1 : a.natAbs * d.natAbs = 1 := by rw [← Int.natAbs_mul, hdet]; rfl
      have h2 : a.natAbs = 1 := Nat.eq_one_of_mul_eq_one_right h1
      have h3 : d.natAbs = 1 := Nat.eq_one_of_mul_eq_one_left h1
      have h4 : a = 1 ∨ a = -1 := by omega
      rcases h4 with rfl | rfl <;> omega
    rcases this with ⟨rfl, rfl⟩ | ⟨rfl, rfl⟩
    · exact .inl ⟨rfl, rfl, rfl, rfl⟩
    · exact .inr ⟨rfl, rfl, .inr ⟨rfl, rfl⟩⟩
  have := power_same hm n.toNat k q 0 (-1) 0 n (by omega) (by omega) (by omega) (by omega) (by omega) hP hE
  simpa [Int.toNat_of_nonneg h0] using this
theorem impl_inverse_isMat {a b c d : Int} (h : isMat a b c d = true) : isMat d (-b) (-c) a = true := by
  rw [isMat_iff] at h ⊢
  simp only [ent_iff, Int.natAbs_neg] at h ⊢
  exact ⟨⟨h.1.2.2.2, h.1.2.1, h.1.2.2.1, h.1.1⟩, by rw [Int.neg_mul_neg, Int.mul_comm d a]; exact h.2⟩
theorem l0_form {a b c d n : Int} (hm : isMat a b c d = true) (h0 : 0 ≤ n) (hn : n ≤ 20) {q : Nat} (hq : 30 ≤ q) : ∃ r : Int × Int × Int × Int × Bool, spec_PowerMatrix.l0 q n a b c d 1 0 0 1 = some r ∧ impl_power.f q a b c d n = some r := by
  rw [power_eq hm h0 hn hq hq]
  suffices h : ∀ (r : Nat) (q : Nat) (x y z w : Int), r + 5 < q → r < 1000 → ∃ s, spec_PowerMatrix.l0 q (r : Int) a b c d x y z w = some s by
    obtain ⟨s, hs⟩ := h n.toNat q 1 0 0 1 (by omega) (by omega)
    rw [Int.toNat_of_nonneg h0] at hs
    exact ⟨s, hs, hs⟩
  intro r
  induction r with
  | zero =>
    intro q x y z w hq _
    obtain ⟨q, rfl, _⟩ : ∃ m, q = m + 1 ∧ 0 ≤ m := ⟨q - 1, by omega, by omega⟩
    exact ⟨(x, y, z, w, true), by simp [spec_PowerMatrix.l0]⟩
  | succ r ih =>
    intro q x y z w hq hr
    obtain ⟨q, rfl, hq4⟩ : ∃ m, q = m + 1 ∧ 4 < m := ⟨q - 1, by omega, by omega⟩
    simp only [spec_PowerMatrix.l0]
    unfold spec_mxTimes.f
    rw [if_pos (show ((r + 1 : Nat) : Int) > 0 by omega), w64 (x := ((r + 1 : Nat) : Int) - 1) (by omega) (by omega), show ((r + 1 : Nat) : Int) - 1 = (r : Nat) by omega]
    simp only [Option.bind_some, mxIf_eq _ _ _ _ hq4]
    split
    · exact ih q _ _ _ _ (by omega) (by omega)
    · exact ⟨_, rfl⟩
theorem FnExactPowerMatrix : laws_FnExactPowerMatrix.Pure := by
  intro a b c d n _ _ _ _ _
  refine ⟨40, ?_⟩
  unfold laws_FnExactPowerMatrix.f laws_toMatrix.f spec_PowerMatrix.f impl_PowerMatrix.f
  simp only [Option.bind_some, mxGood_eq _ _ _ _ (show 4 < 40 by decide), IsMatrix_eq, l1In_eq, within_eq]
  cases hm : isMat a b c d with
  | false => simp [spec_PowerMatrix.j0, impl_PowerMatrix.j0, eqMatrix_self]
  | true =>
    simp only [if_true]
    by_cases hn : -20 ≤ n ∧ n ≤ 20
    · rw [decide_eq_true hn]
      simp only [spec_PowerMatrix.j0, impl_PowerMatrix.j0, Bool.not_true, Bool.false_eq_true, if_false]
      by_cases h0 : n < 0
      · obtain ⟨⟨ha, hb, hc, hd⟩, hdet⟩ := (isMat_iff a b c d).1 hm
        unfold inEnt at hb hc
        rw [if_pos h0, if_pos h0, w64 (x := -n) (by omega) (by omega)]
        unfold impl_inverse.f spec_mxInverse.f spec_PowerMatrix.j1 spec_mxOne.f
        simp only [Option.bind_some]
        rw [w64 (x := -b) (by omega) (by omega), w64 (x := -c) (by omega) (by omega)]
        obtain ⟨r, h1, _⟩ := l0_form (impl_inverse_isMat hm) (show 0 ≤ -n by omega) (by omega) (q := 38) (by decide)
        obtain ⟨r', _, h2⟩ := l0_form (impl_inverse_isMat hm) (show 0 ≤ -n by omega) (by omega) (q := 39) (by decide)
        have e := power_eq (impl_inverse_isMat hm) (show 0 ≤ -n by omega) (by omega) (k := 39) (q := 38) (by decide) (by decide)
        rw [h1, h2] at e
        obtain rfl := Option.some.inj e
        rw [h1, h2]
        simp [eqMatrix_self]
      · rw [if_neg h0, if_neg h0]
        unfold spec_PowerMatrix.j1 spec_mxOne.f
        simp only [Option.bind_some]
        obtain ⟨r, h1, _⟩ := l0_form hm (show 0 ≤ n by omega) (by omega) (q := 38) (by decide)
        obtain ⟨r', _, h2⟩ := l0_form hm (show 0 ≤ n by omega) (by omega) (q := 39) (by decide)
        have e := power_eq hm (show 0 ≤ n by omega) (by omega) (k := 39) (q := 38) (by decide) (by decide)
        rw [h1, h2] at e
        obtain rfl := Option.some.inj e
        rw [h1, h2]
        simp [eqMatrix_self]
    · rw [decide_eq_false hn]
      simp [spec_PowerMatrix.j0, impl_PowerMatrix.j0, eqMatrix_self]

end Go.Proofs.Ytmpmmhmnjdkgcaa.Pure
