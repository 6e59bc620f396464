/- The plain statement of FnExactExtendFrieze, over numbers and lists: the program's answer is the reference's. -/
import Derived.Test.YtmpmmhmnjdkgcabPFnExactExtendFriezex
set_option linter.unusedVariables false
set_option linter.unusedSimpArgs false
namespace Go.Proofs.Ytmpmmhmnjdkgcab.Pure
open Go.RowKit Go.Proofs.Ytmpmmhmnjdkgcab.PFnExactExtendFrieze Go.Proofs.YtmpmmhmnjdkgcabW.PrintWords Go.Proofs.YtmpmmhmnjdkgcabW.PrintLast

theorem w64 {x : Int} (h0 : -9223372036854775808 ≤ x) (h1 : x ≤ 9223372036854775807) : wrap64 x = x := by
  unfold wrap64
  omega
theorem wf_i64 {x : Int} (h : (Lit.int .i64 x).wf = true) : -9223372036854775808 ≤ x ∧ x ≤ 9223372036854775807 := by
  simp [Lit.wf, IntKind.min, IntKind.max, IntKind.signed, IntKind.bits] at h
  omega

theorem rd_nat {l : List Int} {i : Nat} (h : i < l.length) : rd l (i : Int) = l[i] := by
  unfold rd
  rw [Int.toNat_natCast, List.getD_eq_getElem?_getD, List.getElem?_eq_getElem h]
  rfl
theorem rd_drop {l : List Int} {i : Nat} (h : i < l.length) : l.drop i = rd l (i : Int) :: l.drop (i + 1) := by
  rw [rd_nat h, ← List.drop_eq_getElem_cons h]
theorem wsucc {i n : Nat} (h : i < n) (hn : n ≤ 9223372036854775807) : wrap64 ((i : Int) + 1) = ((i + 1 : Nat) : Int) := by
  rw [w64 (by omega) (by omega)]
  omega
theorem ite_t {α : Sort _} {a b : α} : (if true = true then a else b) = a := if_pos rfl
theorem ite_f {α : Sort _} {a b : α} : (if false = true then a else b) = b := if_neg (by decide)
theorem fuel {k d : Nat} (h : d < k) : ∃ m, k = m + 1 ∧ d ≤ m := ⟨k - 1, by omega, by omega⟩

theorem l1In_eq (a b c : Int) : spec_l1In.f a b c = some (decide (b ≤ a ∧ a ≤ c)) := by
  unfold spec_l1In.f
  split <;> simp <;> omega

def inAll (lo hi : Int) (l : List Int) : Bool := l.all fun x => decide (lo ≤ x ∧ x ≤ hi)
theorem l1All_l0 (lo up : Int) (l : List Int) (hl : l.length ≤ 9223372036854775807) : ∀ (d k i : Nat), i + d = l.length → d < k → spec_l1All.l0 k lo up l (l.length : Int) (i : Int) = some (inAll lo up (l.drop i)) := by
  intro d
  induction d with
  | zero =>
    intro k i hi hk
    obtain ⟨k, rfl, _⟩ := fuel hk
    simp only [spec_l1All.l0]
    rw [if_neg (by omega), List.drop_of_length_le (by omega)]
    rfl
  | succ d ih =>
    intro k i hi hk
    obtain ⟨k, rfl, hk⟩ := fuel hk
    simp only [spec_l1All.l0]
    rw [if_pos (by omega), if_pos (by omega), if_pos (by omega), l1In_eq, Option.bind_some, wsucc (n := l.length) (by omega) hl, rd_drop (by omega)]
    by_cases hx : lo ≤ rd l i ∧ rd l i ≤ up
    · rw [decide_eq_true hx, ite_t, ih k (i + 1) (by omega) (by omega)]
      simp [inAll, hx]
    · rw [decide_eq_false hx, ite_f]
      simp [inAll]
      omega
theorem l1All_eq {l : List Int} {k : Nat} (lo hi : Int) (hl : l.length ≤ 9223372036854775807) (hk : l.length < k) : spec_l1All.f k l lo hi = some (inAll lo hi l) := by
  unfold spec_l1All.f
  exact l1All_l0 lo hi l hl l.length k 0 (by omega) hk

theorem within_eq (a b c : Int) : impl_within.f a b c = some (decide (b ≤ a ∧ a ≤ c)) := by
  unfold impl_within.f
  split <;> simp <;> omega

theorem eqIntS_l0 (l : List Int) (hl : l.length ≤ 9223372036854775807) : ∀ (d k i : Nat), i + d = l.length → d < k → laws_eqIntS.l0 k l l (i : Int) = some true := by
  intro d
  induction d with
  | zero =>
    intro k i hi hk
    obtain ⟨k, rfl, _⟩ := fuel hk
    simp only [laws_eqIntS.l0]
    rw [if_neg (by omega)]
  | succ d ih =>
    intro k i hi hk
    obtain ⟨k, rfl, hk⟩ := fuel hk
    simp only [laws_eqIntS.l0]
    rw [if_pos (by omega), if_pos (by omega), if_pos (by omega), if_pos trivial, wsucc (n := l.length) (by omega) hl]
    exact ih k (i + 1) (by omega) (by omega)
theorem eqIntS_self {l : List Int} {k : Nat} (hl : l.length ≤ 9223372036854775807) (hk : l.length < k) : laws_eqIntS.f k l l = some true := by
  unfold laws_eqIntS.f
  rw [if_pos rfl]
  exact eqIntS_l0 l hl l.length k 0 (by omega) hk

theorem tmod_nat (a m : Nat) : Int.tmod (a : Int) (m : Int) = ((a % m : Nat) : Int) := (Int.ofNat_tmod a m).symm

def isRowB (m : Int) (l : List Int) : Bool := decide (3 ≤ (l.length : Int) ∧ (l.length : Int) ≤ 12) && inAll 1 m l
theorem isRow_eq (l : List Int) (m : Int) : impl_isRow.f l m = some (isRowB m l) := rfl
theorem inAll_rd {lo hi : Int} {l : List Int} (h : inAll lo hi l = true) {j : Nat} (hj : j < l.length) : lo ≤ rd l (j : Int) ∧ rd l (j : Int) ≤ hi := by
  unfold inAll at h
  rw [rd_nat hj]
  have := List.all_eq_true.1 h l[j] (List.getElem_mem hj)
  exact of_decide_eq_true this
/-- The number that is divided, and what it is divided by. -/
def nxK (R : List Int) (i : Nat) : Int := rd R (i : Int) * rd R (((i + 1) % R.length : Nat) : Int) - 1
def nxD (A R : List Int) (i : Nat) : Int := rd A (((i + 1) % R.length : Nat) : Int)
def nextFrom (A R : List Int) : List Int → Nat → Nat → List Int × Bool
  | acc, 0, _ => (acc, true)
  | acc, d + 1, i => if Int.tmod (nxK R i) (nxD A R i) = 0 ∧ (1 ≤ Int.tdiv (nxK R i) (nxD A R i) ∧ Int.tdiv (nxK R i) (nxD A R i) ≤ 10000) then nextFrom A R (acc ++ [Int.tdiv (nxK R i) (nxD A R i)]) d (i + 1) else ([], false)
theorem nx_facts {A R : List Int} (hn : 3 ≤ R.length ∧ R.length ≤ 12) (hl : A.length = R.length) (hA : inAll 1 10000 A = true) (hR : inAll 1 10000 R = true) {i : Nat} (hi : i < R.length) :
    Int.tmod (wrap64 ((i : Int) + 1)) (R.length : Int) = (((i + 1) % R.length : Nat) : Int) ∧ (i + 1) % R.length < R.length ∧ 1 ≤ nxD A R i ∧ 0 ≤ nxK R i ∧ nxK R i ≤ 100000000 ∧
      wrap64 (wrap64 (rd R (i : Int) * rd R (((i + 1) % R.length : Nat) : Int)) - 1) = nxK R i ∧ wrap64 (Int.tdiv (nxK R i) (nxD A R i)) = Int.tdiv (nxK R i) (nxD A R i) := by
  have hm : (i + 1) % R.length < R.length := Nat.mod_lt _ (by omega)
  have h1 := inAll_rd hR hi
  have h2 := inAll_rd hR hm
  have h3 := inAll_rd hA (show (i + 1) % R.length < A.length by omega)
  have h4 : rd R (i : Int) * rd R (((i + 1) % R.length : Nat) : Int) ≤ 10000 * 10000 := Int.mul_le_mul h1.2 h2.2 (by omega) (by omega)
  have h5 : 1 * 1 ≤ rd R (i : Int) * rd R (((i + 1) % R.length : Nat) : Int) := Int.mul_le_mul h1.1 h2.1 (by omega) (by omega)
  have hK : 0 ≤ nxK R i ∧ nxK R i ≤ 100000000 := by unfold nxK; omega
  have hD : 1 ≤ nxD A R i := h3.1
  refine ⟨?_, hm, hD, hK.1, hK.2, ?_, ?_⟩
  · rw [w64 (by omega) (by omega), show (i : Int) + 1 = ((i + 1 : Nat) : Int) by omega, tmod_nat]
  · rw [w64 (x := rd R (i : Int) * rd R (((i + 1) % R.length : Nat) : Int)) (by omega) (by omega), w64 (by omega) (by omega)]
    rfl
  · have h6 : 0 ≤ Int.tdiv (nxK R i) (nxD A R i) := Int.tdiv_nonneg hK.1 (by omega)
    have h7 : Int.tdiv (nxK R i) (nxD A R i) ≤ nxK R i := by
      rw [Int.tdiv_eq_ediv_of_nonneg hK.1]
      exact Int.ediv_le_self _ hK.1
    exact w64 (by omega) (by omega)
theorem frNext_l0 {A R : List Int} (hn : 3 ≤ R.length ∧ R.length ≤ 12) (hl : A.length = R.length) (hA : inAll 1 10000 A = true) (hR : inAll 1 10000 R = true) : ∀ (d k i : Nat) (acc : List Int), i + d = R.length → acc.length = i → d < k →
    spec_frNext.l0 k A R (R.length : Int) acc (R.length : Int) (i : Int) = some (nextFrom A R acc d i) := by
  intro d
  induction d with
  | zero =>
    intro k i acc hi ha hk
    obtain ⟨k, rfl, _⟩ := fuel hk
    simp only [spec_frNext.l0]
    rw [if_neg (by omega)]
    rfl
  | succ d ih =>
    intro k i acc hi ha hk
    obtain ⟨k, rfl, hk⟩ := fuel hk
    obtain ⟨f1, f2, f3, f4, f5, f6, f7⟩ := nx_facts hn hl hA hR (i := i) (by omega)
    have f8 : rd A (((i + 1) % R.length : Nat) : Int) = nxD A R i := rfl
    simp only [spec_frNext.l0]
    rw [f1, f6, f8, f7, if_pos (by omega), if_pos (by omega), if_pos (by omega), if_neg (by omega), if_pos (by omega), if_pos (by omega), if_pos (by omega), if_neg (by omega), wsucc (n := R.length) (by omega) (by omega), l1In_eq, Option.bind_some]
    rw [nextFrom]
    by_cases h1 : Int.tmod (nxK R i) (nxD A R i) = 0
    · rw [if_pos h1]
      by_cases h2 : 1 ≤ Int.tdiv (nxK R i) (nxD A R i) ∧ Int.tdiv (nxK R i) (nxD A R i) ≤ 10000
      · rw [decide_eq_true h2, if_pos rfl, if_pos (by omega), if_pos ⟨h1, h2⟩]
        exact ih k (i + 1) _ (by omega) (by rw [List.length_append, List.length_singleton]; omega) (by omega)
      · rw [decide_eq_false h2, if_neg (by decide), if_neg (fun h => h2 h.2)]
    · rw [if_neg h1, if_neg (fun h => h1 h.1)]
theorem implNext_l0 {A R : List Int} (hn : 3 ≤ R.length ∧ R.length ≤ 12) (hl : A.length = R.length) (hA : inAll 1 10000 A = true) (hR : inAll 1 10000 R = true) : ∀ (d k i : Nat) (acc : List Int), i + d = R.length → acc.length = i → d < k →
    impl_NextRow.l0 k A R acc (R.length : Int) (R.length : Int) (i : Int) = some (if inAll 1 10000 acc = true then nextFrom A R acc d i else ([], false)) := by
  intro d
  induction d with
  | zero =>
    intro k i acc hi ha hk
    obtain ⟨k, rfl, _⟩ := fuel hk
    simp only [impl_NextRow.l0]
    rw [if_neg (by omega), isRow_eq, Option.bind_some, isRowB, decide_eq_true (show 3 ≤ (acc.length : Int) ∧ (acc.length : Int) ≤ 12 by omega), Bool.true_and]
    cases inAll 1 10000 acc <;> rfl
  | succ d ih =>
    intro k i acc hi ha hk
    obtain ⟨k, rfl, hk⟩ := fuel hk
    obtain ⟨f1, f2, f3, f4, f5, f6, f7⟩ := nx_facts hn hl hA hR (i := i) (by omega)
    have f8 : rd A (((i + 1) % R.length : Nat) : Int) = nxD A R i := rfl
    have f9 : ∀ x : Int, inAll 1 10000 (acc ++ [x]) = (inAll 1 10000 acc && decide (1 ≤ x ∧ x ≤ 10000)) := by
      intro x
      unfold inAll
      rw [List.all_append, List.all_cons, List.all_nil, Bool.and_true]
    simp only [impl_NextRow.l0]
    rw [f1, f6, f8, f7, if_pos (by omega), if_neg (by omega), if_pos (by omega), if_pos (by omega), if_pos (by omega), if_pos (by omega), if_pos (by omega), if_neg (by omega), wsucc (n := R.length) (by omega) (by omega)]
    rw [nextFrom]
    by_cases h1 : Int.tmod (nxK R i) (nxD A R i) = 0
    · rw [if_pos h1, if_pos (by omega), ih k (i + 1) _ (by omega) (by rw [List.length_append, List.length_singleton]; omega) (by omega), f9]
      by_cases h2 : 1 ≤ Int.tdiv (nxK R i) (nxD A R i) ∧ Int.tdiv (nxK R i) (nxD A R i) ≤ 10000
      · rw [decide_eq_true h2, Bool.and_true, if_pos (c := _ ∧ _) ⟨h1, h2⟩]
      · rw [decide_eq_false h2, Bool.and_false, if_neg (by decide), if_neg (c := _ ∧ _) (fun h => h2 h.2)]
        cases inAll 1 10000 acc <;> rfl
    · rw [if_neg h1, if_neg (c := _ ∧ _) (fun h => h1 h.1)]
      cases inAll 1 10000 acc <;> rfl
/-- The row below two rows, if there is one. -/
def nextR (A R : List Int) : List Int × Bool := if isRowB 10000 A = true ∧ isRowB 10000 R = true ∧ A.length = R.length then nextFrom A R [] R.length 0 else ([], false)
theorem nextFrom_good (A R : List Int) : ∀ (d i : Nat) (acc : List Int), inAll 1 10000 acc = true → (∃ q, nextFrom A R acc d i = (q, true) ∧ q.length = acc.length + d ∧ inAll 1 10000 q = true) ∨ nextFrom A R acc d i = ([], false)
  | 0, _, acc, h => .inl ⟨acc, rfl, by omega, h⟩
  | d + 1, i, acc, h => by
    rw [nextFrom]
    by_cases c : Int.tmod (nxK R i) (nxD A R i) = 0 ∧ (1 ≤ Int.tdiv (nxK R i) (nxD A R i) ∧ Int.tdiv (nxK R i) (nxD A R i) ≤ 10000)
    · rw [if_pos c]
      have h2 : inAll 1 10000 (acc ++ [Int.tdiv (nxK R i) (nxD A R i)]) = true := by
        unfold inAll at h ⊢
        rw [List.all_append, h, List.all_cons, List.all_nil, Bool.and_true, Bool.true_and]
        exact decide_eq_true c.2
      rcases nextFrom_good A R d (i + 1) _ h2 with ⟨q, h3, h4, h5⟩ | h3
      · exact .inl ⟨q, h3, by rw [h4, List.length_append, List.length_singleton]; omega, h5⟩
      · exact .inr h3
    · rw [if_neg c]
      exact .inr rfl
theorem isRowB_iff {m : Int} {l : List Int} : isRowB m l = true ↔ (3 ≤ l.length ∧ l.length ≤ 12) ∧ inAll 1 m l = true := by
  unfold isRowB
  rw [Bool.and_eq_true, decide_eq_true_iff]
  constructor
  · exact fun h => ⟨by omega, h.2⟩
  · exact fun h => ⟨by omega, h.2⟩
theorem nextR_good (A R : List Int) : (∃ q, nextR A R = (q, true) ∧ q.length = R.length ∧ isRowB 10000 q = true) ∨ nextR A R = ([], false) := by
  unfold nextR
  by_cases c : isRowB 10000 A = true ∧ isRowB 10000 R = true ∧ A.length = R.length
  · rw [if_pos c]
    have hR := isRowB_iff.1 c.2.1
    rcases nextFrom_good A R R.length 0 [] rfl with ⟨q, h1, h2, h3⟩ | h1
    · simp only [List.length_nil, Nat.zero_add] at h2
      exact .inl ⟨q, h1, h2, isRowB_iff.2 ⟨by omega, h3⟩⟩
    · exact .inr h1
  · rw [if_neg c]
    exact .inr rfl
theorem frNext_eq {A R : List Int} (hA : isRowB 10000 A = true) (hR : isRowB 10000 R = true) (hl : A.length = R.length) {k : Nat} (hk : 20 ≤ k) : spec_frNext.f k A R = some (nextR A R) := by
  have h1 := isRowB_iff.1 hA
  have h2 := isRowB_iff.1 hR
  unfold spec_frNext.f nextR
  rw [if_pos ⟨hA, hR, hl⟩]
  exact frNext_l0 h2.1 hl h1.2 h2.2 R.length k 0 [] (by omega) rfl (by omega)
theorem implNext_eq (A R : List Int) {k : Nat} (hk : 20 ≤ k) : impl_NextRow.f k A R = some (nextR A R) := by
  obtain ⟨k, rfl⟩ : ∃ m, k = m + 1 := ⟨k - 1, by omega⟩
  unfold impl_NextRow.f nextR
  rw [isRow_eq, isRow_eq, Option.bind_some, Option.bind_some]
  cases hA : isRowB 10000 A with
  | false => simp [impl_NextRow.j0]
  | true =>
    cases hR : isRowB 10000 R with
    | false => simp [impl_NextRow.j0]
    | true =>
      have h1 := isRowB_iff.1 hA
      have h2 := isRowB_iff.1 hR
      rw [if_pos rfl, if_pos rfl]
      by_cases hl : A.length = R.length
      · rw [if_pos ⟨rfl, rfl, hl⟩, hl, bne_self_eq_false]
        simp only [impl_NextRow.j0, Bool.false_eq_true, if_false]
        have := implNext_l0 h2.1 hl h1.2 h2.2 R.length k 0 [] (by omega) rfl (by omega)
        rw [if_pos (show inAll 1 10000 [] = true from rfl)] at this
        exact this
      · rw [if_neg (fun h => hl h.2.2)]
        have : ((A.length : Int) != (R.length : Int)) = true := by rw [bne_iff_ne]; omega
        rw [this]
        simp [impl_NextRow.j0]
def nthR (l : List (List Int)) (i : Nat) : List Int := l.getD i []
theorem rdL_nthR (l : List (List Int)) (i : Nat) : rd_L1 l (i : Int) = nthR l i := rfl
def ones (n : Nat) : List Int := List.replicate n 1
theorem ones_good {n : Nat} (h : 3 ≤ n ∧ n ≤ 12) : isRowB 10000 (ones n) = true := by
  refine isRowB_iff.2 ⟨by unfold ones; rw [List.length_replicate]; exact h, ?_⟩
  unfold inAll ones
  rw [List.all_eq_true]
  intro x hx
  rw [List.eq_of_mem_replicate hx]
  rfl
theorem isRowB_mono {a b : Int} {l : List Int} (hab : a ≤ b) (h : isRowB a l = true) : isRowB b l = true := by
  have h1 := isRowB_iff.1 h
  refine isRowB_iff.2 ⟨h1.1, ?_⟩
  unfold inAll at h1 ⊢
  rw [List.all_eq_true] at h1 ⊢
  intro x hx
  have := of_decide_eq_true (h1.2 x hx)
  exact decide_eq_true (by omega)
theorem ownR_eq {l : List Int} (h : l.length ≤ 1000000) : spec_l1Own.f l = some l := by
  unfold spec_l1Own.f
  rw [Option.bind_some, if_pos (by simp; omega), List.nil_append]
theorem onesRep {n : Nat} (h : n ≤ 12) : slices_Repeat_int_int.f [1] (n : Int) = some (ones n) := by
  unfold slices_Repeat_int_int.f
  rw [if_pos ⟨rfl, by omega, by omega⟩, Int.toNat_natCast]
  rfl
/-- The rows that a row makes, at most so many more. -/
def extR : Nat → List Int → List Int → List (List Int)
  | 0, _, L => [L]
  | c + 1, A, L => if (nextR A L).2 = true then L :: extR c L (nextR A L).1 else [L]
theorem extR_length : ∀ (c : Nat) (A L : List Int), (extR c A L).length ≤ c + 1
  | 0, _, _ => by simp [extR]
  | c + 1, A, L => by
    rw [extR]
    split
    · have := extR_length c L (nextR A L).1
      rw [List.length_cons]
      omega
    · simp
theorem nextR_keep {A L : List Int} (h : (nextR A L).2 = true) : isRowB 10000 (nextR A L).1 = true ∧ (nextR A L).1.length = L.length := by
  rcases nextR_good A L with ⟨q, h1, h2, h3⟩ | h1
  · rw [h1]
    exact ⟨h3, h2⟩
  · rw [h1] at h
    cases h
theorem extR_good : ∀ (c : Nat) (A L : List Int), isRowB 10000 L = true → ∀ q ∈ extR c A L, isRowB 10000 q = true
  | 0, _, L, hL, q, hq => by
    rw [extR, List.mem_singleton] at hq
    rw [hq]
    exact hL
  | c + 1, A, L, hL, q, hq => by
    rw [extR] at hq
    split at hq
    · rename_i h
      rcases List.mem_cons.1 hq with rfl | hq
      · exact hL
      · exact extR_good c L _ (nextR_keep h).1 q hq
    · rw [List.mem_singleton] at hq
      rw [hq]
      exact hL
theorem implExt_l0 (m : Nat) (hm : m ≤ 100) : ∀ (c k : Nat) (A L : List Int) (p : List (List Int)), p.length + 1 + c = m → c + 30 ≤ k →
    impl_extended.l0 k (m : Int) A (p ++ [L]) = some (p ++ extR c A L) := by
  intro c
  induction c with
  | zero =>
    intro k A L p hp hk
    obtain ⟨k, rfl⟩ : ∃ m, k = m + 1 := ⟨k - 1, by omega⟩
    simp only [impl_extended.l0]
    rw [if_neg (by rw [List.length_append, List.length_singleton]; omega), extR]
  | succ c ih =>
    intro k A L p hp hk
    obtain ⟨k, rfl⟩ : ∃ m, k = m + 1 := ⟨k - 1, by omega⟩
    have hlen : (p ++ [L]).length = p.length + 1 := by rw [List.length_append, List.length_singleton]
    have hw : wrap64 (((p ++ [L]).length : Int) - 1) = (p.length : Int) := by rw [hlen, w64 (by omega) (by omega)]; omega
    have hr : rd_L1 (p ++ [L]) (p.length : Int) = L := by
      rw [rdL_nthR]
      unfold nthR
      rw [List.getD_eq_getElem?_getD, List.getElem?_append_right (Nat.le_refl _)]
      simp
    simp only [impl_extended.l0]
    rw [hw, hr, if_pos (by omega), if_pos (by omega), if_pos (by omega), implNext_eq A L (by omega), Option.bind_some, extR]
    cases h : (nextR A L).2 with
    | false =>
      rw [if_neg (by decide), if_neg (by decide)]
    | true =>
      rw [if_pos rfl, if_pos rfl, if_pos (by omega), ih k L (nextR A L).1 (p ++ [L]) (by omega) (by omega), List.append_assoc]
      rfl
theorem implExt_eq {l : List Int} (hl : isRowB 10000 l = true) {m : Nat} (hm : 1 ≤ m ∧ m ≤ 100) {k : Nat} (hk : m + 30 ≤ k) : impl_extended.f k l (m : Int) = some (extR (m - 1) (ones l.length) l) := by
  have h1 := isRowB_iff.1 hl
  unfold impl_extended.f
  rw [onesRep h1.1.2, Option.bind_some]
  exact implExt_l0 m (by omega) (m - 1) k (ones l.length) l [] (by simp; omega) (by omega)
theorem frBegin_eq {l : List Int} {k : Nat} (hl : l.length ≤ 1048576) (hk : l.length < k) : spec_frBegin.f k l = some (isRowB 100 l) := by
  unfold spec_frBegin.f isRowB
  rw [l1In_eq, Option.bind_some, l1All_eq _ _ (by omega) hk, Option.bind_some]
  cases decide (3 ≤ (l.length : Int) ∧ (l.length : Int) ≤ 12) <;> rfl

theorem toIntS_l0 (l : List Int) (hl : l.length ≤ 9223372036854775807) : ∀ (d k i : Nat) (m : List Int), i + d = l.length → d < k → m.length = l.length → m.take i = l.take i →
    laws_toIntS.l0 k l m (i : Int) = some l := by
  intro d
  induction d with
  | zero =>
    intro k i m hi hk hm ht
    obtain ⟨k, rfl, _⟩ := fuel hk
    simp only [laws_toIntS.l0]
    rw [if_neg (by omega)]
    rw [List.take_of_length_le (by omega), List.take_of_length_le (by omega)] at ht
    rw [ht]
  | succ d ih =>
    intro k i m hi hk hm ht
    obtain ⟨k, rfl, hk⟩ := fuel hk
    simp only [laws_toIntS.l0]
    rw [if_pos (by omega), if_pos (by omega), if_pos (by omega), wsucc (n := l.length) (by omega) hl, Int.toNat_natCast]
    refine ih k (i + 1) _ (by omega) (by omega) (by rw [List.length_set]; exact hm) ?_
    rw [rd_nat (by omega)]
    rw [List.take_succ_eq_append_getElem (by rw [List.length_set]; omega), List.take_succ_eq_append_getElem (by omega), List.take_set_of_le (by omega), ht, List.getElem_set_self]
theorem toIntS_eq {l : List Int} {k : Nat} (hl : l.length ≤ 1048576) (hk : l.length < k) : laws_toIntS.f k l = some l := by
  unfold laws_toIntS.f
  rw [if_pos (by omega), if_pos (by omega), Int.toNat_natCast]
  exact toIntS_l0 l (by omega) l.length k 0 _ (by omega) hk (by simp) (by simp)

def marked : Nat → Int → List Int
  | 0, _ => []
  | n + 1, j => j :: marked n (j + 1)
theorem marked_length : ∀ n j, (marked n j).length = n
  | 0, _ => rfl
  | n + 1, j => by rw [marked, List.length_cons, marked_length n]
theorem markIntS_l0 : ∀ (d k i : Nat) (l : List Int) (j : Int), i + d = l.length → d < k → l.length ≤ 1000000000 → 0 ≤ j → j + d ≤ 4000000000 →
    laws_markIntS.l0 k l j (i : Int) = some (j + d, l.take i ++ marked d j) := by
  intro d
  induction d with
  | zero =>
    intro k i l j hi hk hl hj hb
    obtain ⟨k, rfl, _⟩ := fuel hk
    simp only [laws_markIntS.l0]
    rw [if_neg (by omega), List.take_of_length_le (by omega)]
    simp [marked]
  | succ d ih =>
    intro k i l j hi hk hl hj hb
    obtain ⟨k, rfl, hk⟩ := fuel hk
    simp only [laws_markIntS.l0]
    rw [if_pos (by omega), if_pos (by omega), wsucc (n := l.length) (by omega) (by omega), w64 (x := j + 1) (by omega) (by omega), Int.toNat_natCast,
      ih k (i + 1) _ (j + 1) (by rw [List.length_set]; omega) (by omega) (by rw [List.length_set]; omega) (by omega) (by omega)]
    rw [List.take_succ_eq_append_getElem (by rw [List.length_set]; omega), List.getElem_set_self, List.take_set_of_le (by omega), marked, List.append_assoc]
    congr 2
    omega
theorem markIntS_eq {l : List Int} {k : Nat} (hk : l.length < k) (hl : l.length ≤ 1000000000) : laws_markIntS.f k l 1 = some (1 + (l.length : Int), marked l.length 1) := by
  unfold laws_markIntS.f
  have := markIntS_l0 l.length k 0 l 1 (by omega) hk hl (by omega) (by omega)
  simpa using this
theorem heldIntS_l0 (p : List Int) : ∀ (d k : Nat) (p : List Int) (j : Int), d < k → p.length + d ≤ 1000000000 → 0 ≤ j → j + d ≤ 4000000000 →
    laws_heldIntS.l0 k (p ++ marked d j) j (p.length : Int) = some (j + d) := by
  intro d
  induction d with
  | zero =>
    intro k p j hk hl hj hb
    obtain ⟨k, rfl, _⟩ := fuel hk
    simp only [laws_heldIntS.l0]
    rw [if_neg (by simp [marked])]
    simp
  | succ d ih =>
    intro k p j hk hl hj hb
    obtain ⟨k, rfl, hk⟩ := fuel hk
    simp only [laws_heldIntS.l0]
    have hlen : (p ++ marked (d + 1) j).length = p.length + (d + 1) := by rw [List.length_append, marked_length]
    have hr : rd (p ++ marked (d + 1) j) (p.length : Int) = j := by
      rw [rd_nat (by omega), List.getElem_append_right (Nat.le_refl _)]
      simp [marked]
    rw [if_pos (by omega), if_pos (by omega), if_pos hr, wsucc (n := p.length + (d + 1)) (by omega) (by omega), w64 (x := j + 1) (by omega) (by omega)]
    have h := ih k (p ++ [j]) (j + 1) (by omega) (by rw [List.length_append]; simp; omega) (by omega) (by omega)
    rw [List.length_append, List.length_singleton, List.append_assoc] at h
    rw [marked]
    refine h.trans ?_
    congr 1
    omega
theorem heldIntS_eq {n k : Nat} (hk : n < k) (hl : n ≤ 1000000000) : laws_heldIntS.f k (marked n 1) 1 = some (1 + (n : Int)) := by
  unfold laws_heldIntS.f
  exact heldIntS_l0 [] n k [] 1 hk (by simpa using hl) (by omega) (by omega)

def specX : Nat → List Int → List Int → List Int × Bool
  | 0, _, L => (L, true)
  | c + 1, A, L => if (nextR A L).2 = true then specX c L (nextR A L).1 else ([], false)
theorem specX_ext : ∀ (c : Nat) (A L : List Int), specX c A L = if (extR c A L).length = c + 1 then (nthR (extR c A L) c, true) else ([], false)
  | 0, A, L => by rw [specX, extR, if_pos (show [L].length = 0 + 1 from rfl)]; rfl
  | c + 1, A, L => by
    rw [specX, extR]
    by_cases h : (nextR A L).2 = true
    · rw [if_pos h, if_pos h, specX_ext c L (nextR A L).1, List.length_cons]
      by_cases h2 : (extR c L (nextR A L).1).length = c + 1
      · rw [if_pos h2, if_pos (by omega)]
        rfl
      · rw [if_neg h2, if_neg (by omega)]
    · rw [if_neg h, if_neg h, if_neg (by simp)]
theorem spec_l1 : ∀ (c k : Nat) (A L : List Int), c ≤ 100 → isRowB 10000 A = true → isRowB 10000 L = true → A.length = L.length → c + 30 ≤ k →
    spec_ExtendFrieze.l1 k ((c : Int) + 1) A L = some (specX c A L) := by
  intro c
  induction c with
  | zero =>
    intro k A L _ hA hL hl hk
    obtain ⟨k, rfl⟩ : ∃ m, k = m + 1 := ⟨k - 1, by omega⟩
    simp only [spec_ExtendFrieze.l1]
    rw [if_neg (by omega), specX]
  | succ c ih =>
    intro k A L hc hA hL hl hk
    obtain ⟨k, rfl⟩ : ∃ m, k = m + 1 := ⟨k - 1, by omega⟩
    simp only [spec_ExtendFrieze.l1]
    rw [if_pos (by omega), frNext_eq hA hL hl (by omega), Option.bind_some, specX]
    cases h : (nextR A L).2 with
    | false => rw [if_neg (by decide), if_neg (by decide)]
    | true =>
      have h2 := nextR_keep h
      rw [if_pos rfl, if_pos rfl, w64 (by omega) (by omega), show ((c + 1 : Nat) : Int) + 1 - 1 = (c : Int) + 1 by omega]
      exact ih k L _ (by omega) hL h2.1 h2.2.symm (by omega)
theorem spec_l0 (l : List Int) (a : Int) (hl : l.length ≤ 12) : ∀ (d k i : Nat), i + d = l.length → d + 100 ≤ k →
    ∃ k', k = k' + d + 1 ∧ spec_ExtendFrieze.l0 k l a (ones i) (l.length : Int) (i : Int) = spec_ExtendFrieze.l1 k' a (ones l.length) l := by
  intro d
  induction d with
  | zero =>
    intro k i hi hk
    obtain ⟨k, rfl⟩ : ∃ m, k = m + 1 := ⟨k - 1, by omega⟩
    refine ⟨k, rfl, ?_⟩
    simp only [spec_ExtendFrieze.l0]
    rw [if_neg (by omega), ownR_eq (by omega), Option.bind_some, show i = l.length by omega]
  | succ d ih =>
    intro k i hi hk
    obtain ⟨k, rfl⟩ : ∃ m, k = m + 1 := ⟨k - 1, by omega⟩
    obtain ⟨k', h1, h2⟩ := ih k (i + 1) (by omega) (by omega)
    refine ⟨k', by omega, ?_⟩
    simp only [spec_ExtendFrieze.l0]
    have e : ones i ++ [1] = ones (i + 1) := by unfold ones; rw [List.replicate_succ']
    rw [if_pos (by omega), if_pos (by unfold ones; rw [List.length_replicate]; omega), wsucc (n := l.length) (by omega) (by omega), e]
    exact h2
theorem res (l : List Int) (a : Int) (hl : l.length ≤ 1048576) : ∃ q b, q.length ≤ 20 ∧ ∀ k, l.length + 3000 ≤ k → spec_ExtendFrieze.f k l a = some (q, b) ∧ impl_ExtendFrieze.f k l a = some (q, b) := by
  by_cases h : isRowB 100 l = true ∧ 1 ≤ a ∧ a ≤ 9
  · obtain ⟨hr, h1, h9⟩ := h
    have hl12 := (isRowB_iff.1 hr).1
    have hr2 := isRowB_mono (b := 10000) (by omega) hr
    have ho := ones_good hl12
    obtain ⟨c, rfl⟩ : ∃ c : Nat, a = (c : Int) + 1 := ⟨(a - 1).toNat, by omega⟩
    have hol : (ones l.length).length = l.length := by unfold ones; rw [List.length_replicate]
    have hx := specX_ext c (ones l.length) l
    have hq : (specX c (ones l.length) l).1.length ≤ 20 ∧ ((extR c (ones l.length) l).length = c + 1 → isRowB 10000 (nthR (extR c (ones l.length) l) c) = true) := by
      have h5 : (extR c (ones l.length) l).length = c + 1 → isRowB 10000 (nthR (extR c (ones l.length) l) c) = true := by
        intro h6
        refine extR_good c (ones l.length) l hr2 _ ?_
        unfold nthR
        rw [List.getD_eq_getElem?_getD, List.getElem?_eq_getElem (by omega)]
        exact List.getElem_mem _
      refine ⟨?_, h5⟩
      rw [hx]
      by_cases h6 : (extR c (ones l.length) l).length = c + 1
      · rw [if_pos h6]
        have := (isRowB_iff.1 (h5 h6)).1
        show (nthR (extR c (ones l.length) l) c).length ≤ 20
        omega
      · rw [if_neg h6]
        simp
    refine ⟨(specX c (ones l.length) l).1, (specX c (ones l.length) l).2, hq.1, fun k hk => ⟨?_, ?_⟩⟩
    · obtain ⟨k, rfl⟩ : ∃ m, k = m + 1 := ⟨k - 1, by omega⟩
      unfold spec_ExtendFrieze.f
      rw [frBegin_eq hl (by omega), Option.bind_some, hr, if_pos rfl, l1In_eq, Option.bind_some, decide_eq_true ⟨h1, h9⟩]
      simp only [spec_ExtendFrieze.j0, Bool.not_true, Bool.false_eq_true, if_false]
      obtain ⟨k', h2, h3⟩ := spec_l0 l ((c : Int) + 1) (by omega) l.length k 0 (by omega) (by omega)
      refine h3.trans (spec_l1 c k' _ _ (by omega) ho hr2 hol (by omega))
    · obtain ⟨k, rfl⟩ : ∃ m, k = m + 1 := ⟨k - 1, by omega⟩
      have he := implExt_eq hr2 (m := c + 1) (by omega) (k := k) (by omega)
      have hle := extR_length c (ones l.length) l
      unfold impl_ExtendFrieze.f
      rw [isRow_eq, Option.bind_some, hr, if_pos rfl, within_eq, Option.bind_some, decide_eq_true ⟨h1, h9⟩]
      simp only [impl_ExtendFrieze.j0, Bool.not_true, Bool.false_eq_true, if_false]
      rw [show ((c : Int) + 1) = ((c + 1 : Nat) : Int) by omega, he, Option.bind_some, show c + 1 - 1 = c by omega, hx]
      by_cases h6 : (extR c (ones l.length) l).length = c + 1
      · have h7 := hq.2 h6
        rw [if_neg (by omega), w64 (by omega) (by omega), show ((c + 1 : Nat) : Int) - 1 = (c : Int) by omega, if_pos (by omega), if_pos (by omega), rdL_nthR, if_pos h6]
        have h8 := (isRowB_iff.1 h7).1
        unfold slices_Clone_int_int.f
        rw [if_pos (by omega), Option.bind_some]
      · rw [if_neg h6, if_pos (by omega)]
  · refine ⟨[], false, by simp, fun k hk => ?_⟩
    obtain ⟨k, rfl⟩ : ∃ m, k = m + 1 := ⟨k - 1, by omega⟩
    unfold spec_ExtendFrieze.f impl_ExtendFrieze.f
    rw [frBegin_eq hl (by omega), Option.bind_some, isRow_eq, Option.bind_some, l1In_eq, within_eq, Option.bind_some, Option.bind_some]
    cases hr : isRowB 100 l with
    | false => simp [spec_ExtendFrieze.j0, impl_ExtendFrieze.j0]
    | true =>
      rw [decide_eq_false (fun h9 => h ⟨hr, h9⟩)]
      simp [spec_ExtendFrieze.j0, impl_ExtendFrieze.j0]
-- tail
theorem FnExactExtendFrieze : laws_FnExactExtendFrieze.Pure := by
  intro l a _ hw ha
  refine ⟨l.length + 4000, ?_⟩
  unfold laws_FnExactExtendFrieze.f
  by_cases h : (l.length : Int) > 1048576
  · rw [if_pos h]
  · rw [if_neg h]
    have hl : l.length ≤ 1048576 := by omega
    obtain ⟨q, b, hq, hr⟩ := res l a hl
    have hS : spec_ExtendFrieze.f (l.length + 4000) l a = some (q, b) := (hr _ (by omega)).1
    have hI : ∀ k, l.length + 3000 ≤ k → impl_ExtendFrieze.f k l a = some (q, b) := fun k hk => (hr k hk).2
    have hT : ∀ k, l.length < k → laws_toIntS.f k l = some l := fun k hk => toIntS_eq hl hk
    have hE : ∀ k, l.length < k → laws_eqIntS.f k l l = some true := fun k hk => eqIntS_self (by omega) hk
    have hM : ∀ k, l.length < k → laws_markIntS.f k l 1 = some (1 + (l.length : Int), marked l.length 1) := fun k hk => markIntS_eq hk (by omega)
    have n1 : ¬ (1 + (l.length : Int) < 0) := by omega
    have hQ : ∀ k, 100 < k → laws_eqIntS.f k q q = some true := fun k hk => eqIntS_self (by omega) (by omega)
    have hMI : ∀ k, 100 < k → laws_markIntS.f k q 1 = some (1 + (q.length : Int), marked q.length 1) := fun k hk => markIntS_eq (by omega) (by omega)
    have hHI : ∀ k, 100 < k → laws_heldIntS.f k (marked q.length 1) 1 = some (1 + (q.length : Int)) := fun k hk => heldIntS_eq (by omega) (by omega)
    have n2 : ¬ (1 + (q.length : Int) < 0) := by omega
    repeat (first | dsimp only | rw [Option.bind_some] | rw [if_pos rfl] | rw [bne_self_eq_false] | rw [if_neg Bool.false_ne_true] | rw [hT _ (by omega)] | rw [hS] | rw [hI _ (by omega)] | rw [hE _ (by omega)] | rw [hM _ (by omega)] | rw [if_neg n1] | rw [hQ _ (by omega)] | rw [hMI _ (by omega)] | rw [hHI _ (by omega)] | rw [if_neg n2] | (simp only [laws_FnExactExtendFrieze.j0]) | (simp only [laws_FnExactExtendFrieze.j1]) | (simp only [laws_FnExactExtendFrieze.j2]))

end Go.Proofs.Ytmpmmhmnjdkgcab.Pure
