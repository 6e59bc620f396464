/- The plain statement of FnExactClosesAt, over numbers and lists: the program's answer is the reference's. -/
import Derived.Test.YtmpmmhmnjdkgcabPFnExactClosesAtx
set_option linter.unusedVariables false
set_option linter.unusedSimpArgs false
namespace Go.Proofs.Ytmpmmhmnjdkgcab.Pure
open Go.RowKit Go.Proofs.Ytmpmmhmnjdkgcab.PFnExactClosesAt Go.Proofs.YtmpmmhmnjdkgcabW.PrintWords Go.Proofs.YtmpmmhmnjdkgcabW.PrintLast

theorem w64 {x : Int} (h0 : -9223372036854775808 ≤ x) (h1 : x ≤ 9223372036854775807) : wrap64 x = x := by
  unfold wrap64
  omega
theorem wf_i64 {x : Int} (h : (Lit.int .i64 x).wf = true) : -9223372036854775808 ≤ x ∧ x ≤ 9223372036854775807 := by
  simp [Lit.wf, IntKind.min, IntKind.max, IntKind.signed, IntKind.bits] at h
  omega

theorem rd_nat {l : List Int} {i : Nat} (h : i < l.length) : rd l (i : Int) = l[i] := by
  unfold rd
  rw [Int.toNat_natCast, List.getD_eq_getElem?_getD, List.getElem?_eq_getElem h]
  rfl
theorem rd_drop {l : List Int} {i : Nat} (h : i < l.length) : l.drop i = rd l (i : Int) :: l.drop (i + 1) := by
  rw [rd_nat h, ← List.drop_eq_getElem_cons h]
theorem wsucc {i n : Nat} (h : i < n) (hn : n ≤ 9223372036854775807) : wrap64 ((i : Int) + 1) = ((i + 1 : Nat) : Int) := by
  rw [w64 (by omega) (by omega)]
  omega
theorem ite_t {α : Sort _} {a b : α} : (if true = true then a else b) = a := if_pos rfl
theorem ite_f {α : Sort _} {a b : α} : (if false = true then a else b) = b := if_neg (by decide)
theorem fuel {k d : Nat} (h : d < k) : ∃ m, k = m + 1 ∧ d ≤ m := ⟨k - 1, by omega, by omega⟩

theorem l1In_eq (a b c : Int) : spec_l1In.f a b c = some (decide (b ≤ a ∧ a ≤ c)) := by
  unfold spec_l1In.f
  split <;> simp <;> omega

def inAll (lo hi : Int) (l : List Int) : Bool := l.all fun x => decide (lo ≤ x ∧ x ≤ hi)
theorem l1All_l0 (lo up : Int) (l : List Int) (hl : l.length ≤ 9223372036854775807) : ∀ (d k i : Nat), i + d = l.length → d < k → spec_l1All.l0 k lo up l (l.length : Int) (i : Int) = some (inAll lo up (l.drop i)) := by
  intro d
  induction d with
  | zero =>
    intro k i hi hk
    obtain ⟨k, rfl, _⟩ := fuel hk
    simp only [spec_l1All.l0]
    rw [if_neg (by omega), List.drop_of_length_le (by omega)]
    rfl
  | succ d ih =>
    intro k i hi hk
    obtain ⟨k, rfl, hk⟩ := fuel hk
    simp only [spec_l1All.l0]
    rw [if_pos (by omega), if_pos (by omega), if_pos (by omega), l1In_eq, Option.bind_some, wsucc (n := l.length) (by omega) hl, rd_drop (by omega)]
    by_cases hx : lo ≤ rd l i ∧ rd l i ≤ up
    · rw [decide_eq_true hx, ite_t, ih k (i + 1) (by omega) (by omega)]
      simp [inAll, hx]
    · rw [decide_eq_false hx, ite_f]
      simp [inAll]
      omega
theorem l1All_eq {l : List Int} {k : Nat} (lo hi : Int) (hl : l.length ≤ 9223372036854775807) (hk : l.length < k) : spec_l1All.f k l lo hi = some (inAll lo hi l) := by
  unfold spec_l1All.f
  exact l1All_l0 lo hi l hl l.length k 0 (by omega) hk

theorem within_eq (a b c : Int) : impl_within.f a b c = some (decide (b ≤ a ∧ a ≤ c)) := by
  unfold impl_within.f
  split <;> simp <;> omega

theorem eqIntS_l0 (l : List Int) (hl : l.length ≤ 9223372036854775807) : ∀ (d k i : Nat), i + d = l.length → d < k → laws_eqIntS.l0 k l l (i : Int) = some true := by
  intro d
  induction d with
  | zero =>
    intro k i hi hk
    obtain ⟨k, rfl, _⟩ := fuel hk
    simp only [laws_eqIntS.l0]
    rw [if_neg (by omega)]
  | succ d ih =>
    intro k i hi hk
    obtain ⟨k, rfl, hk⟩ := fuel hk
    simp only [laws_eqIntS.l0]
    rw [if_pos (by omega), if_pos (by omega), if_pos (by omega), if_pos trivial, wsucc (n := l.length) (by omega) hl]
    exact ih k (i + 1) (by omega) (by omega)
theorem eqIntS_self {l : List Int} {k : Nat} (hl : l.length ≤ 9223372036854775807) (hk : l.length < k) : laws_eqIntS.f k l l = some true := by
  unfold laws_eqIntS.f
  rw [if_pos rfl]
  exact eqIntS_l0 l hl l.length k 0 (by omega) hk

theorem tmod_nat (a m : Nat) : Int.tmod (a : Int) (m : Int) = ((a % m : Nat) : Int) := (Int.ofNat_tmod a m).symm

def isRowB (m : Int) (l : List Int) : Bool := decide (3 ≤ (l.length : Int) ∧ (l.length : Int) ≤ 12) && inAll 1 m l
theorem isRow_eq (l : List Int) (m : Int) : impl_isRow.f l m = some (isRowB m l) := rfl
theorem inAll_rd {lo hi : Int} {l : List Int} (h : inAll lo hi l = true) {j : Nat} (hj : j < l.length) : lo ≤ rd l (j : Int) ∧ rd l (j : Int) ≤ hi := by
  unfold inAll at h
  rw [rd_nat hj]
  have := List.all_eq_true.1 h l[j] (List.getElem_mem hj)
  exact of_decide_eq_true this
/-- The number that is divided, and what it is divided by. -/
def nxK (R : List Int) (i : Nat) : Int := rd R (i : Int) * rd R (((i + 1) % R.length : Nat) : Int) - 1
def nxD (A R : List Int) (i : Nat) : Int := rd A (((i + 1) % R.length : Nat) : Int)
def nextFrom (A R : List Int) : List Int → Nat → Nat → List Int × Bool
  | acc, 0, _ => (acc, true)
  | acc, d + 1, i => if Int.tmod (nxK R i) (nxD A R i) = 0 ∧ (1 ≤ Int.tdiv (nxK R i) (nxD A R i) ∧ Int.tdiv (nxK R i) (nxD A R i) ≤ 10000) then nextFrom A R (acc ++ [Int.tdiv (nxK R i) (nxD A R i)]) d (i + 1) else ([], false)
theorem nx_facts {A R : List Int} (hn : 3 ≤ R.length ∧ R.length ≤ 12) (hl : A.length = R.length) (hA : inAll 1 10000 A = true) (hR : inAll 1 10000 R = true) {i : Nat} (hi : i < R.length) :
    Int.tmod (wrap64 ((i : Int) + 1)) (R.length : Int) = (((i + 1) % R.length : Nat) : Int) ∧ (i + 1) % R.length < R.length ∧ 1 ≤ nxD A R i ∧ 0 ≤ nxK R i ∧ nxK R i ≤ 100000000 ∧
      wrap64 (wrap64 (rd R (i : Int) * rd R (((i + 1) % R.length : Nat) : Int)) - 1) = nxK R i ∧ wrap64 (Int.tdiv (nxK R i) (nxD A R i)) = Int.tdiv (nxK R i) (nxD A R i) := by
  have hm : (i + 1) % R.length < R.length := Nat.mod_lt _ (by omega)
  have h1 := inAll_rd hR hi
  have h2 := inAll_rd hR hm
  have h3 := inAll_rd hA (show (i + 1) % R.length < A.length by omega)
  have h4 : rd R (i : Int) * rd R (((i + 1) % R.length : Nat) : Int) ≤ 10000 * 10000 := Int.mul_le_mul h1.2 h2.2 (by omega) (by omega)
  have h5 : 1 * 1 ≤ rd R (i : Int) * rd R (((i + 1) % R.length : Nat) : Int) := Int.mul_le_mul h1.1 h2.1 (by omega) (by omega)
  have hK : 0 ≤ nxK R i ∧ nxK R i ≤ 100000000 := by unfold nxK; omega
  have hD : 1 ≤ nxD A R i := h3.1
  refine ⟨?_, hm, hD, hK.1, hK.2, ?_, ?_⟩
  · rw [w64 (by omega) (by omega), show (i : Int) + 1 = ((i + 1 : Nat) : Int) by omega, tmod_nat]
  · rw [w64 (x := rd R (i : Int) * rd R (((i + 1) % R.length : Nat) : Int)) (by omega) (by omega), w64 (by omega) (by omega)]
    rfl
  · have h6 : 0 ≤ Int.tdiv (nxK R i) (nxD A R i) := Int.tdiv_nonneg hK.1 (by omega)
    have h7 : Int.tdiv (nxK R i) (nxD A R i) ≤ nxK R i := by
      rw [Int.tdiv_eq_ediv_of_nonneg hK.1]
      exact Int.ediv_le_self _ hK.1
    exact w64 (by omega) (by omega)
theorem frNext_l0 {A R : List Int} (hn : 3 ≤ R.length ∧ R.length ≤ 12) (hl : A.length = R.length) (hA : inAll 1 10000 A = true) (hR : inAll 1 10000 R = true) : ∀ (d k i : Nat) (acc : List Int), i + d = R.length → acc.length = i → d < k →
    spec_frNext.l0 k A R (R.length : Int) acc (R.length : Int) (i : Int) = some (nextFrom A R acc d i) := by
  intro d
  induction d with
  | zero =>
    intro k i acc hi ha hk
    obtain ⟨k, rfl, _⟩ := fuel hk
    simp only [spec_frNext.l0]
    rw [if_neg (by omega)]
    rfl
  | succ d ih =>
    intro k i acc hi ha hk
    obtain ⟨k, rfl, hk⟩ := fuel hk
    obtain ⟨f1, f2, f3, f4, f5, f6, f7⟩ := nx_facts hn hl hA hR (i := i) (by omega)
    have f8 : rd A (((i + 1) % R.length : Nat) : Int) = nxD A R i := rfl
    simp only [spec_frNext.l0]
    rw [f1, f6, f8, f7, if_pos (by omega), if_pos (by omega), if_pos (by omega), if_neg (by omega), if_pos (by omega), if_pos (by omega), if_pos (by omega), if_neg (by omega), wsucc (n := R.length) (by omega) (by omega), l1In_eq, Option.bind_some]
    rw [nextFrom]
    by_cases h1 : Int.tmod (nxK R i) (nxD A R i) = 0
    · rw [if_pos h1]
      by_cases h2 : 1 ≤ Int.tdiv (nxK R i) (nxD A R i) ∧ Int.tdiv (nxK R i) (nxD A R i) ≤ 10000
      · rw [decide_eq_true h2, if_pos rfl, if_pos (by omega), if_pos ⟨h1, h2⟩]
        exact ih k (i + 1) _ (by omega) (by rw [List.length_append, List.length_singleton]; omega) (by omega)
      · rw [decide_eq_false h2, if_neg (by decide), if_neg (fun h => h2 h.2)]
    · rw [if_neg h1, if_neg (fun h => h1 h.1)]
theorem implNext_l0 {A R : List Int} (hn : 3 ≤ R.length ∧ R.length ≤ 12) (hl : A.length = R.length) (hA : inAll 1 10000 A = true) (hR : inAll 1 10000 R = true) : ∀ (d k i : Nat) (acc : List Int), i + d = R.length → acc.length = i → d < k →
    impl_NextRow.l0 k A R acc (R.length : Int) (R.length : Int) (i : Int) = some (if inAll 1 10000 acc = true then nextFrom A R acc d i else ([], false)) := by
  intro d
  induction d with
  | zero =>
    intro k i acc hi ha hk
    obtain ⟨k, rfl, _⟩ := fuel hk
    simp only [impl_NextRow.l0]
    rw [if_neg (by omega), isRow_eq, Option.bind_some, isRowB, decide_eq_true (show 3 ≤ (acc.length : Int) ∧ (acc.length : Int) ≤ 12 by omega), Bool.true_and]
    cases inAll 1 10000 acc <;> rfl
  | succ d ih =>
    intro k i acc hi ha hk
    obtain ⟨k, rfl, hk⟩ := fuel hk
    obtain ⟨f1, f2, f3, f4, f5, f6, f7⟩ := nx_facts hn hl hA hR (i := i) (by omega)
    have f8 : rd A (((i + 1) % R.length : Nat) : Int) = nxD A R i := rfl
    have f9 : ∀ x : Int, inAll 1 10000 (acc ++ [x]) = (inAll 1 10000 acc && decide (1 ≤ x ∧ x ≤ 10000)) := by
      intro x
      unfold inAll
      rw [List.all_append, List.all_cons, List.all_nil, Bool.and_true]
    simp only [impl_NextRow.l0]
    rw [f1, f6, f8, f7, if_pos (by omega), if_neg (by omega), if_pos (by omega), if_pos (by omega), if_pos (by omega), if_pos (by omega), if_pos (by omega), if_neg (by omega), wsucc (n := R.length) (by omega) (by omega)]
    rw [nextFrom]
    by_cases h1 : Int.tmod (nxK R i) (nxD A R i) = 0
    · rw [if_pos h1, if_pos (by omega), ih k (i + 1) _ (by omega) (by rw [List.length_append, List.length_singleton]; omega) (by omega), f9]
      by_cases h2 : 1 ≤ Int.tdiv (nxK R i) (nxD A R i) ∧ Int.tdiv (nxK R i) (nxD A R i) ≤ 10000
      · rw [decide_eq_true h2, Bool.and_true, if_pos (c := _ ∧ _) ⟨h1, h2⟩]
      · rw [decide_eq_false h2, Bool.and_false, if_neg (by decide), if_neg (c := _ ∧ _) (fun h => h2 h.2)]
        cases inAll 1 10000 acc <;> rfl
    · rw [if_neg h1, if_neg (c := _ ∧ _) (fun h => h1 h.1)]
      cases inAll 1 10000 acc <;> rfl
/-- The row below two rows, if there is one. -/
def nextR (A R : List Int) : List Int × Bool := if isRowB 10000 A = true ∧ isRowB 10000 R = true ∧ A.length = R.length then nextFrom A R [] R.length 0 else ([], false)
theorem nextFrom_good (A R : List Int) : ∀ (d i : Nat) (acc : List Int), inAll 1 10000 acc = true → (∃ q, nextFrom A R acc d i = (q, true) ∧ q.length = acc.length + d ∧ inAll 1 10000 q = true) ∨ nextFrom A R acc d i = ([], false)
  | 0, _, acc, h => .inl ⟨acc, rfl, by omega, h⟩
  | d + 1, i, acc, h => by
    rw [nextFrom]
    by_cases c : Int.tmod (nxK R i) (nxD A R i) = 0 ∧ (1 ≤ Int.tdiv (nxK R i) (nxD A R i) ∧ Int.tdiv (nxK R i) (nxD A R i) ≤ 10000)
    · rw [if_pos c]
      have h2 : inAll 1 10000 (acc ++ [Int.tdiv (nxK R i) (nxD A R i)]) = true := by
        unfold inAll at h ⊢
        rw [List.all_append, h, List.all_cons, List.all_nil, Bool.and_true, Bool.true_and]
        exact decide_eq_true c.2
      rcases nextFrom_good A R d (i + 1) _ h2 with ⟨q, h3, h4, h5⟩ | h3
      · exact .inl ⟨q, h3, by rw [h4, List.length_append, List.length_singleton]; omega, h5⟩
      · exact .inr h3
    · rw [if_neg c]
      exact .inr rfl
theorem isRowB_iff {m : Int} {l : List Int} : isRowB m l = true ↔ (3 ≤ l.length ∧ l.length ≤ 12) ∧ inAll 1 m l = true := by
  unfold isRowB
  rw [Bool.and_eq_true, decide_eq_true_iff]
  constructor
  · exact fun h => ⟨by omega, h.2⟩
  · exact fun h => ⟨by omega, h.2⟩
theorem nextR_good (A R : List Int) : (∃ q, nextR A R = (q, true) ∧ q.length = R.length ∧ isRowB 10000 q = true) ∨ nextR A R = ([], false) := by
  unfold nextR
  by_cases c : isRowB 10000 A = true ∧ isRowB 10000 R = true ∧ A.length = R.length
  · rw [if_pos c]
    have hR := isRowB_iff.1 c.2.1
    rcases nextFrom_good A R R.length 0 [] rfl with ⟨q, h1, h2, h3⟩ | h1
    · simp only [List.length_nil, Nat.zero_add] at h2
      exact .inl ⟨q, h1, h2, isRowB_iff.2 ⟨by omega, h3⟩⟩
    · exact .inr h1
  · rw [if_neg c]
    exact .inr rfl
theorem frNext_eq {A R : List Int} (hA : isRowB 10000 A = true) (hR : isRowB 10000 R = true) (hl : A.length = R.length) {k : Nat} (hk : 20 ≤ k) : spec_frNext.f k A R = some (nextR A R) := by
  have h1 := isRowB_iff.1 hA
  have h2 := isRowB_iff.1 hR
  unfold spec_frNext.f nextR
  rw [if_pos ⟨hA, hR, hl⟩]
  exact frNext_l0 h2.1 hl h1.2 h2.2 R.length k 0 [] (by omega) rfl (by omega)
theorem implNext_eq (A R : List Int) {k : Nat} (hk : 20 ≤ k) : impl_NextRow.f k A R = some (nextR A R) := by
  obtain ⟨k, rfl⟩ : ∃ m, k = m + 1 := ⟨k - 1, by omega⟩
  unfold impl_NextRow.f nextR
  rw [isRow_eq, isRow_eq, Option.bind_some, Option.bind_some]
  cases hA : isRowB 10000 A with
  | false => simp [impl_NextRow.j0]
  | true =>
    cases hR : isRowB 10000 R with
    | false => simp [impl_NextRow.j0]
    | true =>
      have h1 := isRowB_iff.1 hA
      have h2 := isRowB_iff.1 hR
      rw [if_pos rfl, if_pos rfl]
      by_cases hl : A.length = R.length
      · rw [if_pos ⟨rfl, rfl, hl⟩, hl, bne_self_eq_false]
        simp only [impl_NextRow.j0, Bool.false_eq_true, if_false]
        have := implNext_l0 h2.1 hl h1.2 h2.2 R.length k 0 [] (by omega) rfl (by omega)
        rw [if_pos (show inAll 1 10000 [] = true from rfl)] at this
        exact this
      · rw [if_neg (fun h => hl h.2.2)]
        have : ((A.length : Int) != (R.length : Int)) = true := by rw [bne_iff_ne]; omega
        rw [this]
        simp [impl_NextRow.j0]
def nthR (l : List (List Int)) (i : Nat) : List Int := l.getD i []
theorem rdL_nthR (l : List (List Int)) (i : Nat) : rd_L1 l (i : Int) = nthR l i := rfl
def ones (n : Nat) : List Int := List.replicate n 1
theorem ones_good {n : Nat} (h : 3 ≤ n ∧ n ≤ 12) : isRowB 10000 (ones n) = true := by
  refine isRowB_iff.2 ⟨by unfold ones; rw [List.length_replicate]; exact h, ?_⟩
  unfold inAll ones
  rw [List.all_eq_true]
  intro x hx
  rw [List.eq_of_mem_replicate hx]
  rfl
theorem isRowB_mono {a b : Int} {l : List Int} (hab : a ≤ b) (h : isRowB a l = true) : isRowB b l = true := by
  have h1 := isRowB_iff.1 h
  refine isRowB_iff.2 ⟨h1.1, ?_⟩
  unfold inAll at h1 ⊢
  rw [List.all_eq_true] at h1 ⊢
  intro x hx
  have := of_decide_eq_true (h1.2 x hx)
  exact decide_eq_true (by omega)
theorem ownR_eq {l : List Int} (h : l.length ≤ 1000000) : spec_l1Own.f l = some l := by
  unfold spec_l1Own.f
  rw [Option.bind_some, if_pos (by simp; omega), List.nil_append]
theorem onesRep {n : Nat} (h : n ≤ 12) : slices_Repeat_int_int.f [1] (n : Int) = some (ones n) := by
  unfold slices_Repeat_int_int.f
  rw [if_pos ⟨rfl, by omega, by omega⟩, Int.toNat_natCast]
  rfl
/-- The rows that a row makes, at most so many more. -/
def extR : Nat → List Int → List Int → List (List Int)
  | 0, _, L => [L]
  | c + 1, A, L => if (nextR A L).2 = true then L :: extR c L (nextR A L).1 else [L]
theorem extR_length : ∀ (c : Nat) (A L : List Int), (extR c A L).length ≤ c + 1
  | 0, _, _ => by simp [extR]
  | c + 1, A, L => by
    rw [extR]
    split
    · have := extR_length c L (nextR A L).1
      rw [List.length_cons]
      omega
    · simp
theorem nextR_keep {A L : List Int} (h : (nextR A L).2 = true) : isRowB 10000 (nextR A L).1 = true ∧ (nextR A L).1.length = L.length := by
  rcases nextR_good A L with ⟨q, h1, h2, h3⟩ | h1
  · rw [h1]
    exact ⟨h3, h2⟩
  · rw [h1] at h
    cases h
theorem extR_good : ∀ (c : Nat) (A L : List Int), isRowB 10000 L = true → ∀ q ∈ extR c A L, isRowB 10000 q = true
  | 0, _, L, hL, q, hq => by
    rw [extR, List.mem_singleton] at hq
    rw [hq]
    exact hL
  | c + 1, A, L, hL, q, hq => by
    rw [extR] at hq
    split at hq
    · rename_i h
      rcases List.mem_cons.1 hq with rfl | hq
      · exact hL
      · exact extR_good c L _ (nextR_keep h).1 q hq
    · rw [List.mem_singleton] at hq
      rw [hq]
      exact hL
theorem implExt_l0 (m : Nat) (hm : m ≤ 100) : ∀ (c k : Nat) (A L : List Int) (p : List (List Int)), p.length + 1 + c = m → c + 30 ≤ k →
    impl_extended.l0 k (m : Int) A (p ++ [L]) = some (p ++ extR c A L) := by
  intro c
  induction c with
  | zero =>
    intro k A L p hp hk
    obtain ⟨k, rfl⟩ : ∃ m, k = m + 1 := ⟨k - 1, by omega⟩
    simp only [impl_extended.l0]
    rw [if_neg (by rw [List.length_append, List.length_singleton]; omega), extR]
  | succ c ih =>
    intro k A L p hp hk
    obtain ⟨k, rfl⟩ : ∃ m, k = m + 1 := ⟨k - 1, by omega⟩
    have hlen : (p ++ [L]).length = p.length + 1 := by rw [List.length_append, List.length_singleton]
    have hw : wrap64 (((p ++ [L]).length : Int) - 1) = (p.length : Int) := by rw [hlen, w64 (by omega) (by omega)]; omega
    have hr : rd_L1 (p ++ [L]) (p.length : Int) = L := by
      rw [rdL_nthR]
      unfold nthR
      rw [List.getD_eq_getElem?_getD, List.getElem?_append_right (Nat.le_refl _)]
      simp
    simp only [impl_extended.l0]
    rw [hw, hr, if_pos (by omega), if_pos (by omega), if_pos (by omega), implNext_eq A L (by omega), Option.bind_some, extR]
    cases h : (nextR A L).2 with
    | false =>
      rw [if_neg (by decide), if_neg (by decide)]
    | true =>
      rw [if_pos rfl, if_pos rfl, if_pos (by omega), ih k L (nextR A L).1 (p ++ [L]) (by omega) (by omega), List.append_assoc]
      rfl
theorem implExt_eq {l : List Int} (hl : isRowB 10000 l = true) {m : Nat} (hm : 1 ≤ m ∧ m ≤ 100) {k : Nat} (hk : m + 30 ≤ k) : impl_extended.f k l (m : Int) = some (extR (m - 1) (ones l.length) l) := by
  have h1 := isRowB_iff.1 hl
  unfold impl_extended.f
  rw [onesRep h1.1.2, Option.bind_some]
  exact implExt_l0 m (by omega) (m - 1) k (ones l.length) l [] (by simp; omega) (by omega)
theorem frBegin_eq {l : List Int} {k : Nat} (hl : l.length ≤ 1048576) (hk : l.length < k) : spec_frBegin.f k l = some (isRowB 100 l) := by
  unfold spec_frBegin.f isRowB
  rw [l1In_eq, Option.bind_some, l1All_eq _ _ (by omega) hk, Option.bind_some]
  cases decide (3 ≤ (l.length : Int) ∧ (l.length : Int) ≤ 12) <;> rfl

theorem toIntS_l0 (l : List Int) (hl : l.length ≤ 9223372036854775807) : ∀ (d k i : Nat) (m : List Int), i + d = l.length → d < k → m.length = l.length → m.take i = l.take i →
    laws_toIntS.l0 k l m (i : Int) = some l := by
  intro d
  induction d with
  | zero =>
    intro k i m hi hk hm ht
    obtain ⟨k, rfl, _⟩ := fuel hk
    simp only [laws_toIntS.l0]
    rw [if_neg (by omega)]
    rw [List.take_of_length_le (by omega), List.take_of_length_le (by omega)] at ht
    rw [ht]
  | succ d ih =>
    intro k i m hi hk hm ht
    obtain ⟨k, rfl, hk⟩ := fuel hk
    simp only [laws_toIntS.l0]
    rw [if_pos (by omega), if_pos (by omega), if_pos (by omega), wsucc (n := l.length) (by omega) hl, Int.toNat_natCast]
    refine ih k (i + 1) _ (by omega) (by omega) (by rw [List.length_set]; exact hm) ?_
    rw [rd_nat (by omega)]
    rw [List.take_succ_eq_append_getElem (by rw [List.length_set]; omega), List.take_succ_eq_append_getElem (by omega), List.take_set_of_le (by omega), ht, List.getElem_set_self]
theorem toIntS_eq {l : List Int} {k : Nat} (hl : l.length ≤ 1048576) (hk : l.length < k) : laws_toIntS.f k l = some l := by
  unfold laws_toIntS.f
  rw [if_pos (by omega), if_pos (by omega), Int.toNat_natCast]
  exact toIntS_l0 l (by omega) l.length k 0 _ (by omega) hk (by simp) (by simp)

theorem mx_eq (a b : Int) : mx a b = max a b := by
  unfold mx
  split <;> omega
def allOne (l : List Int) : Bool := inAll 1 1 l
def closeF : List (List Int) → Int → Int × Bool
  | [], _ => (0, false)
  | L :: t, i => if allOne L = true then (i + 1, true) else closeF t (i + 1)
theorem spec_l1 : ∀ (c k : Nat) (A L : List Int), c ≤ 8 → isRowB 10000 A = true → isRowB 10000 L = true → A.length = L.length → c + 40 ≤ k →
    spec_ClosesAt.l1 k A L (9 - (c : Int)) = some (closeF (extR c A L) (8 - (c : Int))) := by
  intro c
  induction c with
  | zero =>
    intro k A L _ hA hL hl hk
    obtain ⟨k, rfl⟩ : ∃ m, k = m + 1 := ⟨k - 1, by omega⟩
    have h12 := (isRowB_iff.1 hL).1
    simp only [spec_ClosesAt.l1]
    rw [if_pos (by omega), l1All_eq _ _ (by omega) (by omega), Option.bind_some, extR, closeF, show inAll 1 1 L = allOne L from rfl]
    cases ho : allOne L with
    | true =>
      rw [if_pos rfl, if_pos rfl]
      rfl
    | false =>
      rw [if_neg (by decide), if_neg (by decide), frNext_eq hA hL hl (by omega), Option.bind_some, closeF]
      cases h : (nextR A L).2 with
      | false => rw [if_neg (by decide)]
      | true =>
        rw [if_pos rfl]
        obtain ⟨k, rfl⟩ : ∃ m, k = m + 1 := ⟨k - 1, by omega⟩
        simp only [spec_ClosesAt.l1]
        rw [w64 (by omega) (by omega), if_neg (by omega)]
  | succ c ih =>
    intro k A L hc hA hL hl hk
    obtain ⟨k, rfl⟩ : ∃ m, k = m + 1 := ⟨k - 1, by omega⟩
    have h12 := (isRowB_iff.1 hL).1
    simp only [spec_ClosesAt.l1]
    rw [if_pos (by omega), l1All_eq _ _ (by omega) (by omega), Option.bind_some, extR, show inAll 1 1 L = allOne L from rfl]
    have e1 : ∀ t : List (List Int), closeF (L :: t) (8 - ((c + 1 : Nat) : Int)) = if allOne L = true then (9 - ((c + 1 : Nat) : Int), true) else closeF t (8 - (c : Int)) := by
      intro t
      rw [closeF, show 8 - ((c + 1 : Nat) : Int) + 1 = 8 - (c : Int) by omega, show 9 - ((c + 1 : Nat) : Int) = 8 - (c : Int) by omega]
    have e2 : closeF [] (8 - (c : Int)) = (0, false) := rfl
    cases ho : allOne L with
    | true =>
      rw [if_pos rfl]
      split
      · rw [e1, ho, if_pos rfl]
      · rw [e1, ho, if_pos rfl]
    | false =>
      rw [if_neg (by decide), frNext_eq hA hL hl (by omega), Option.bind_some]
      cases h : (nextR A L).2 with
      | false => rw [if_neg (by decide), if_neg (by decide), e1, ho, if_neg (by decide), e2]
      | true =>
        have h2 := nextR_keep h
        rw [if_pos rfl, if_pos rfl, e1, ho, if_neg (by decide), w64 (by omega) (by omega), show 9 - ((c + 1 : Nat) : Int) + 1 = 9 - (c : Int) by omega]
        exact ih k L _ (by omega) hL h2.1 h2.2.symm (by omega)
theorem spec_l0 (l : List Int) (hl : l.length ≤ 12) : ∀ (d k i : Nat), i + d = l.length → d + 100 ≤ k →
    ∃ k', k = k' + d + 1 ∧ spec_ClosesAt.l0 k l (ones i) (l.length : Int) (i : Int) = spec_ClosesAt.l1 k' (ones l.length) l 1 := by
  intro d
  induction d with
  | zero =>
    intro k i hi hk
    obtain ⟨k, rfl⟩ : ∃ m, k = m + 1 := ⟨k - 1, by omega⟩
    refine ⟨k, rfl, ?_⟩
    simp only [spec_ClosesAt.l0]
    rw [if_neg (by omega), ownR_eq (by omega), Option.bind_some, show i = l.length by omega]
  | succ d ih =>
    intro k i hi hk
    obtain ⟨k, rfl⟩ : ∃ m, k = m + 1 := ⟨k - 1, by omega⟩
    obtain ⟨k', h1, h2⟩ := ih k (i + 1) (by omega) (by omega)
    refine ⟨k', by omega, ?_⟩
    simp only [spec_ClosesAt.l0]
    have e : ones i ++ [1] = ones (i + 1) := by unfold ones; rw [List.replicate_succ']
    rw [if_pos (by omega), if_pos (by unfold ones; rw [List.length_replicate]; omega), wsucc (n := l.length) (by omega) (by omega), e]
    exact h2
theorem max_l0 (L : List Int) (hL : L.length ≤ 1000) (h1 : ∀ x ∈ L, 1 ≤ x) : ∀ (d k i : Nat) (a : Int), i + d = L.length → d < k → 1 ≤ a →
    ∃ v, slices_Max_int_int.l0 k L a (i : Int) = some v ∧ 1 ≤ v ∧ (v = 1 ↔ a = 1 ∧ allOne (L.drop i) = true) := by
  intro d
  induction d with
  | zero =>
    intro k i a hi hk ha
    obtain ⟨k, rfl, _⟩ := fuel hk
    refine ⟨a, ?_, ha, ?_⟩
    · simp only [slices_Max_int_int.l0]
      rw [if_neg (by omega)]
    · rw [List.drop_of_length_le (by omega)]
      simp [allOne, inAll]
  | succ d ih =>
    intro k i a hi hk ha
    obtain ⟨k, rfl, hk⟩ := fuel hk
    have hx : 1 ≤ rd L (i : Int) := by rw [rd_nat (show i < L.length by omega)]; exact h1 _ (List.getElem_mem _)
    obtain ⟨v, h2, h3, h4⟩ := ih k (i + 1) (max a (rd L (i : Int))) (by omega) (by omega) (by omega)
    refine ⟨v, ?_, h3, ?_⟩
    · simp only [slices_Max_int_int.l0]
      rw [if_pos (by omega), if_pos (by omega), wsucc (n := L.length) (by omega) (by omega), mx_eq]
      exact h2
    · rw [h4, rd_drop (l := L) (i := i) (by omega)]
      unfold allOne inAll
      rw [List.all_cons, Bool.and_eq_true, decide_eq_true_iff]
      constructor
      · intro h
        exact ⟨by omega, by omega, h.2⟩
      · intro h
        exact ⟨by omega, h.2.2⟩
theorem max_one {L : List Int} (h : isRowB 10000 L = true) {k : Nat} (hk : 20 ≤ k) : ∃ v, slices_Max_int_int.f k L = some v ∧ (v = 1 ↔ allOne L = true) := by
  have h2 := isRowB_iff.1 h
  have h1 : ∀ x ∈ L, 1 ≤ x := by
    intro x hx
    have := h2.2
    unfold inAll at this
    have := of_decide_eq_true (List.all_eq_true.1 this x hx)
    exact this.1
  have hx : 1 ≤ rd L ((0 : Nat) : Int) := by rw [rd_nat (show 0 < L.length by omega)]; exact h1 _ (List.getElem_mem _)
  obtain ⟨v, h3, h4, h5⟩ := max_l0 L (by omega) h1 (L.length - 1) k 1 (rd L ((0 : Nat) : Int)) (by omega) (by omega) hx
  refine ⟨v, ?_, ?_⟩
  · unfold slices_Max_int_int.f
    rw [if_neg (by omega), if_pos (by omega)]
    exact h3
  · rw [h5]
    have e := rd_drop (l := L) (i := 0) (by omega)
    rw [List.drop_zero] at e
    have e2 : allOne L = (decide (1 ≤ rd L ((0 : Nat) : Int) ∧ rd L ((0 : Nat) : Int) ≤ 1) && allOne (L.drop 1)) := by
      rw [show allOne L = allOne (rd L ((0 : Nat) : Int) :: L.drop 1) by rw [← e]]
      unfold allOne inAll
      rw [List.all_cons]
    rw [e2, Bool.and_eq_true, decide_eq_true_iff]
    constructor
    · exact fun h => ⟨by omega, h.2⟩
    · exact fun h => ⟨by omega, h.2⟩
theorem rdR_drop {l : List (List Int)} {i : Nat} (h : i < l.length) : l.drop i = nthR l i :: l.drop (i + 1) := by
  have : nthR l i = l[i] := by
    unfold nthR
    rw [List.getD_eq_getElem?_getD, List.getElem?_eq_getElem h]
    rfl
  rw [this, ← List.drop_eq_getElem_cons h]
theorem impl_l0 (X : List (List Int)) (hX : X.length ≤ 20) (hg : ∀ q ∈ X, isRowB 10000 q = true) : ∀ (d k i : Nat), i + d = X.length → d + 40 ≤ k →
    impl_ClosesAt.l0 k X (X.length : Int) (i : Int) = some (closeF (X.drop i) (i : Int)) := by
  intro d
  induction d with
  | zero =>
    intro k i hi hk
    obtain ⟨k, rfl⟩ : ∃ m, k = m + 1 := ⟨k - 1, by omega⟩
    simp only [impl_ClosesAt.l0]
    rw [if_neg (by omega), List.drop_of_length_le (by omega)]
    rfl
  | succ d ih =>
    intro k i hi hk
    obtain ⟨k, rfl⟩ : ∃ m, k = m + 1 := ⟨k - 1, by omega⟩
    have e := rdR_drop (l := X) (i := i) (by omega)
    have hm : nthR X i ∈ X := List.mem_of_mem_drop (i := i) (by rw [e]; exact List.mem_cons_self ..)
    obtain ⟨v, h1, h2⟩ := max_one (hg _ hm) (k := k) (by omega)
    simp only [impl_ClosesAt.l0]
    rw [if_pos (by omega), if_pos (by omega), if_pos (by omega), rdL_nthR, h1, Option.bind_some, wsucc (n := X.length) (by omega) (by omega), e, closeF, show (i : Int) + 1 = ((i + 1 : Nat) : Int) by omega]
    by_cases hv : v = 1
    · rw [if_pos hv, if_pos (h2.1 hv)]
    · rw [if_neg hv, if_neg (fun h => hv (h2.2 h))]
      exact ih k (i + 1) (by omega) (by omega)
theorem res (l : List Int) (hl : l.length ≤ 1048576) : ∃ q b, ∀ k, l.length + 3000 ≤ k → spec_ClosesAt.f k l = some (q, b) ∧ impl_ClosesAt.f k l = some (q, b) := by
  cases hr : isRowB 100 l with
  | false =>
    refine ⟨0, false, fun k hk => ?_⟩
    unfold spec_ClosesAt.f impl_ClosesAt.f
    rw [frBegin_eq hl (by omega), Option.bind_some, isRow_eq, Option.bind_some, hr]
    exact ⟨rfl, rfl⟩
  | true =>
    have hl12 := (isRowB_iff.1 hr).1
    have hr2 := isRowB_mono (b := 10000) (by omega) hr
    have ho := ones_good hl12
    have hol : (ones l.length).length = l.length := by unfold ones; rw [List.length_replicate]
    have hle := extR_length 8 (ones l.length) l
    refine ⟨(closeF (extR 8 (ones l.length) l) 0).1, (closeF (extR 8 (ones l.length) l) 0).2, fun k hk => ?_⟩
    unfold spec_ClosesAt.f impl_ClosesAt.f
    rw [frBegin_eq hl (by omega), Option.bind_some, isRow_eq, Option.bind_some, hr, if_pos rfl, if_pos rfl]
    constructor
    · obtain ⟨k', h2, h3⟩ := spec_l0 l (by omega) l.length k 0 (by omega) (by omega)
      exact h3.trans (spec_l1 8 k' _ _ (by omega) ho hr2 hol (by omega))
    · have he := implExt_eq hr2 (m := 9) (by omega) (k := k) (by omega)
      have he2 : impl_extended.f k l 9 = some (extR 8 (ones l.length) l) := he
      rw [he2, Option.bind_some]
      exact impl_l0 _ (by omega) (extR_good 8 _ l hr2) (extR 8 (ones l.length) l).length k 0 (by omega) (by omega)
-- tail
theorem FnExactClosesAt : laws_FnExactClosesAt.Pure := by
  intro l _ hw
  refine ⟨l.length + 4000, ?_⟩
  unfold laws_FnExactClosesAt.f
  by_cases h : (l.length : Int) > 1048576
  · rw [if_pos h]
  · rw [if_neg h]
    have hl : l.length ≤ 1048576 := by omega
    obtain ⟨q, fl, hr⟩ := res l hl
    have hS : spec_ClosesAt.f (l.length + 4000) l = some (q, fl) := (hr _ (by omega)).1
    have hI : ∀ k, l.length + 3000 ≤ k → impl_ClosesAt.f k l = some (q, fl) := fun k hk => (hr k hk).2
    have hT : ∀ k, l.length < k → laws_toIntS.f k l = some l := fun k hk => toIntS_eq hl hk
    have hE : ∀ k, l.length < k → laws_eqIntS.f k l l = some true := fun k hk => eqIntS_self (by omega) hk
    repeat (first | dsimp only | rw [Option.bind_some] | rw [if_pos rfl] | rw [bne_self_eq_false] | rw [if_neg Bool.false_ne_true] | rw [hT _ (by omega)] | rw [hS] | rw [hI _ (by omega)] | rw [hE _ (by omega)] | (simp only [laws_FnExactClosesAt.j0]))

end Go.Proofs.Ytmpmmhmnjdkgcab.Pure
