/- The plain statement of FnExactParseDiagonals, over bytes and lists: both parsers read the text of listed diagonals back, and answer no to every other text. -/
import Derived.Test.YtcfcnnnkpdhecaaDoorPFnExactParseDiagonalsx
set_option linter.unusedVariables false
set_option linter.unusedSimpArgs false
namespace Go.Proofs.YtcfcnnnkpdhecaaDoor.Pure
open Go.RowKit Go.Proofs.YtcfcnnnkpdhecaaDoor.PFnExactParseDiagonals Go.Proofs.YtcfcnnnkpdhecaaDoorW.PrintWords Go.Proofs.YtcfcnnnkpdhecaaDoorW.PrintLast

theorem w64 {x : Int} (h0 : -9223372036854775808 ≤ x) (h1 : x ≤ 9223372036854775807) : wrap64 x = x := by
  unfold wrap64
  omega
theorem wf_i64 {x : Int} (h : (Lit.int .i64 x).wf = true) : -9223372036854775808 ≤ x ∧ x ≤ 9223372036854775807 := by
  simp [Lit.wf, IntKind.min, IntKind.max, IntKind.signed, IntKind.bits] at h
  omega

theorem rd_nat {l : List Int} {i : Nat} (h : i < l.length) : rd l (i : Int) = l[i] := by
  unfold rd
  rw [Int.toNat_natCast, List.getD_eq_getElem?_getD, List.getElem?_eq_getElem h]
  rfl
theorem rd_drop {l : List Int} {i : Nat} (h : i < l.length) : l.drop i = rd l (i : Int) :: l.drop (i + 1) := by
  rw [rd_nat h, ← List.drop_eq_getElem_cons h]
theorem wsucc {i n : Nat} (h : i < n) (hn : n ≤ 9223372036854775807) : wrap64 ((i : Int) + 1) = ((i + 1 : Nat) : Int) := by
  rw [w64 (by omega) (by omega)]
  omega
theorem ite_t {α : Sort _} {a b : α} : (if true = true then a else b) = a := if_pos rfl
theorem ite_f {α : Sort _} {a b : α} : (if false = true then a else b) = b := if_neg (by decide)
theorem fuel {k d : Nat} (h : d < k) : ∃ m, k = m + 1 ∧ d ≤ m := ⟨k - 1, by omega, by omega⟩

/-- A number's decimal numeral, as a string. -/
def decS (n : Nat) : ByteArray := ⟨(Lib.decDigits n).toArray⟩
theorem decS_len : ∀ (d n : Nat), n < 10 ^ (d + 1) → (Lib.decDigits n).length ≤ d + 1 := by
  intro d
  induction d with
  | zero =>
    intro n h
    rw [Lib.decDigits, dif_pos (by omega)]
    simp
  | succ d ih =>
    intro n h
    rw [Lib.decDigits]
    split
    · simp
    · rw [Nat.pow_succ] at h
      have := ih (n / 10) (by omega)
      rw [List.length_append, List.length_singleton]
      omega
theorem size_decS (n : Nat) : (decS n).size = (Lib.decDigits n).length := by simp [decS, ByteArray.size]
theorem digit_byte {n : Nat} (h : n < 10) : strOfNums [(wrap64 (48 + (n : Int))) % 256] = ⟨[UInt8.ofNat (48 + n)].toArray⟩ := by
  rw [w64 (by omega) (by omega), show (48 + (n : Int)) % 256 = ((48 + n : Nat) : Int) by omega]
  rfl
theorem l1Num_eq : ∀ (d n k : Nat), n < 10 ^ (d + 1) → d ≤ 18 → d < k → n ≤ 9223372036854775807 → spec_l1Num.f k (n : Int) = some (decS n) := by
  intro d
  induction d with
  | zero =>
    intro n k h hd hk hn
    obtain ⟨k, rfl, _⟩ := fuel hk
    simp only [spec_l1Num.f]
    rw [if_pos (by omega), digit_byte (by omega)]
    unfold decS
    rw [Lib.decDigits, dif_pos (by omega)]
  | succ d ih =>
    intro n k h hd hk hn
    obtain ⟨k, rfl, hk⟩ := fuel hk
    rw [Nat.pow_succ] at h
    simp only [spec_l1Num.f]
    by_cases h9 : n < 10
    · rw [if_pos (by omega), digit_byte h9]
      unfold decS
      rw [Lib.decDigits, dif_pos h9]
    · have hdiv : Int.tdiv (n : Int) 10 = ((n / 10 : Nat) : Int) := by rw [Int.tdiv_eq_ediv_of_nonneg (by omega)]; omega
      have hmod : Int.tmod (n : Int) 10 = ((n % 10 : Nat) : Int) := by rw [Int.tmod_eq_emod_of_nonneg (by omega)]; omega
      have hl := decS_len d (n / 10) (by omega)
      rw [if_neg (by omega), hdiv, w64 (x := ((n / 10 : Nat) : Int)) (by omega) (by omega), ih (n / 10) k (by omega) (by omega) (by omega) (by omega), Option.bind_some, Option.bind_some, hmod, digit_byte (n := n % 10) (by omega), if_pos (by rw [size_decS]; simp only [ByteArray.size, List.size_toArray, List.length_singleton]; omega)]
      unfold decS
      rw [ByteArray.mk_append_mk, Lib.decDigits.eq_1 n, dif_neg h9]

theorem rdT_nat {l : List S37} {i : Nat} (h : i < l.length) : rd_T37 l (i : Int) = l[i] := by
  unfold rd_T37
  rw [Int.toNat_natCast, List.getD_eq_getElem?_getD, List.getElem?_eq_getElem h]
  rfl
theorem rdT_drop {l : List S37} {i : Nat} (h : i < l.length) : l.drop i = rd_T37 l (i : Int) :: l.drop (i + 1) := by
  rw [rdT_nat h, ← List.drop_eq_getElem_cons h]
theorem eqDiagonal_self (a b : Int) : laws_eqDiagonal.f a b a b = some true := by
  unfold laws_eqDiagonal.f
  rw [if_pos rfl, if_pos rfl]
theorem eqDiagonalS_l0 (l : List S37) (hl : l.length ≤ 9223372036854775807) : ∀ (d k i : Nat), i + d = l.length → d < k → laws_eqDiagonalS.l0 k l l (i : Int) = some true := by
  intro d
  induction d with
  | zero =>
    intro k i hi hk
    obtain ⟨k, rfl, _⟩ := fuel hk
    simp only [laws_eqDiagonalS.l0]
    rw [if_neg (by omega)]
  | succ d ih =>
    intro k i hi hk
    obtain ⟨k, rfl, hk⟩ := fuel hk
    simp only [laws_eqDiagonalS.l0]
    rw [if_pos (by omega), if_pos (by omega), if_pos (by omega), eqDiagonal_self, Option.bind_some, if_pos rfl, wsucc (n := l.length) (by omega) hl]
    exact ih k (i + 1) (by omega) (by omega)
theorem eqDiagonalS_self {l : List S37} {k : Nat} (hl : l.length ≤ 9223372036854775807) (hk : l.length < k) : laws_eqDiagonalS.f k l l = some true := by
  unfold laws_eqDiagonalS.f
  rw [if_pos rfl]
  exact eqDiagonalS_l0 l hl l.length k 0 (by omega) hk

theorem l1In_eq (a b c : Int) : spec_l1In.f a b c = some (decide (b ≤ a ∧ a ≤ c)) := by
  unfold spec_l1In.f
  split <;> simp <;> omega

theorem num12 {n : Int} (h : 0 ≤ n ∧ n < 100) {k : Nat} (hk : 5 ≤ k) : spec_l1Num.f k n = some (decS n.toNat) ∧ strconv_Itoa.f n = some (decS n.toNat) ∧ (decS n.toNat).size ≤ 2 := by
  obtain ⟨m, rfl⟩ : ∃ m : Nat, n = m := ⟨n.toNat, by omega⟩
  rw [Int.toNat_natCast]
  refine ⟨l1Num_eq 1 m k (by omega) (by omega) (by omega) (by omega), ?_, ?_⟩
  · unfold strconv_Itoa.f
    rw [if_pos (by omega), Int.toNat_natCast]
    rfl
  · rw [size_decS]
    exact decS_len 1 m (by omega)
def okL (e : S37) : Bool := decide (0 ≤ e.f0 ∧ e.f0 < e.f1 ∧ e.f1 ≤ 11)
theorem listed_l0 (l : List S37) (hl : l.length ≤ 100) : ∀ (d k i : Nat), i + d = l.length → d < k → spec_poListed.l0 k l (l.length : Int) (i : Int) = some ((l.drop i).all okL) := by
  intro d
  induction d with
  | zero =>
    intro k i hi hk
    obtain ⟨k, rfl, _⟩ := fuel hk
    simp only [spec_poListed.l0]
    rw [if_neg (by omega), List.drop_of_length_le (by omega)]
    rfl
  | succ d ih =>
    intro k i hi hk
    obtain ⟨k, rfl, hk⟩ := fuel hk
    simp only [spec_poListed.l0]
    rw [if_pos (by omega), if_pos (by omega), if_pos (by omega), l1In_eq, Option.bind_some, l1In_eq, Option.bind_some, wsucc (n := l.length) (by omega) (by omega), ih k (i + 1) (by omega) (by omega), rdT_drop (l := l) (i := i) (by omega), List.all_cons]
    unfold okL
    by_cases h1 : 1 ≤ (rd_T37 l (i : Int)).f1 ∧ (rd_T37 l (i : Int)).f1 ≤ 11
    · rw [decide_eq_true h1, if_pos rfl, w64 (by omega) (by omega)]
      by_cases h2 : 0 ≤ (rd_T37 l (i : Int)).f0 ∧ (rd_T37 l (i : Int)).f0 ≤ (rd_T37 l (i : Int)).f1 - 1
      · rw [decide_eq_true h2, if_pos rfl, decide_eq_true (show 0 ≤ (rd_T37 l (i : Int)).f0 ∧ (rd_T37 l (i : Int)).f0 < (rd_T37 l (i : Int)).f1 ∧ (rd_T37 l (i : Int)).f1 ≤ 11 by omega), Bool.true_and]
      · rw [decide_eq_false h2, if_neg (by decide), decide_eq_false (show ¬ (0 ≤ (rd_T37 l (i : Int)).f0 ∧ (rd_T37 l (i : Int)).f0 < (rd_T37 l (i : Int)).f1 ∧ (rd_T37 l (i : Int)).f1 ≤ 11) by omega), Bool.false_and]
    · rw [decide_eq_false h1, if_neg (by decide), decide_eq_false (show ¬ (0 ≤ (rd_T37 l (i : Int)).f0 ∧ (rd_T37 l (i : Int)).f0 < (rd_T37 l (i : Int)).f1 ∧ (rd_T37 l (i : Int)).f1 ≤ 11) by omega), Bool.false_and]
theorem idxL_l0 (l : List S37) (hl : l.length ≤ 100) : ∀ (d k i : Nat), i + d = l.length → d < k → ∃ j : Int, impl_Diagonal__at_impl_isListed_1_38.l0 k l (l.length : Int) (i : Int) = some j ∧ decide (j ≥ 0) = !((l.drop i).all okL) := by
  intro d
  induction d with
  | zero =>
    intro k i hi hk
    obtain ⟨k, rfl, _⟩ := fuel hk
    simp only [impl_Diagonal__at_impl_isListed_1_38.l0]
    rw [if_neg (by omega), List.drop_of_length_le (by omega)]
    exact ⟨-1, rfl, rfl⟩
  | succ d ih =>
    intro k i hi hk
    obtain ⟨k, rfl, hk⟩ := fuel hk
    have e : impl_isListed_1.f (rd_T37 l (i : Int)).f0 (rd_T37 l (i : Int)).f1 = some (!(okL (rd_T37 l (i : Int)))) := by
      unfold impl_isListed_1.f okL
      split
      · rw [decide_eq_false (by omega)]; rfl
      · split
        · rw [decide_eq_false (by omega)]; rfl
        · by_cases h : (rd_T37 l (i : Int)).f0 ≥ (rd_T37 l (i : Int)).f1
          · rw [decide_eq_true h, decide_eq_false (by omega)]; rfl
          · rw [decide_eq_false h, decide_eq_true (by omega)]; rfl
    simp only [impl_Diagonal__at_impl_isListed_1_38.l0]
    rw [if_pos (by omega), if_pos (by omega), if_pos (by omega), e, Option.bind_some, wsucc (n := l.length) (by omega) (by omega), rdT_drop (l := l) (i := i) (by omega), List.all_cons]
    cases okL (rd_T37 l (i : Int)) with
    | true =>
      rw [Bool.not_true, if_neg (by decide), Bool.true_and]
      exact ih k (i + 1) (by omega) (by omega)
    | false =>
      rw [Bool.not_false, if_pos rfl, Bool.false_and]
      exact ⟨_, rfl, decide_eq_true (by omega)⟩
def listedB (l : List S37) : Bool := decide (l.length ≤ 12) && l.all okL
theorem specListed_eq (l : List S37) {k : Nat} (hk : 20 ≤ k) : spec_poListed.f k l = some (listedB l) := by
  unfold spec_poListed.f listedB
  by_cases h : l.length ≤ 12
  · have := listed_l0 l (by omega) l.length k 0 (by omega) (by omega)
    rw [Int.natCast_zero, List.drop_zero] at this
    rw [if_neg (by omega), this, decide_eq_true h, Bool.true_and]
  · rw [if_pos (by omega), decide_eq_false h, Bool.false_and]
theorem implListed_eq (l : List S37) {k : Nat} (hk : 20 ≤ k) : impl_isListed.f k l = some (listedB l) := by
  unfold impl_isListed.f listedB impl_Diagonal__at_impl_isListed_1_23.f impl_Diagonal__at_impl_isListed_1_38.f
  by_cases h : l.length ≤ 12
  · obtain ⟨j, h1, h2⟩ := idxL_l0 l (by omega) l.length k 0 (by omega) (by omega)
    rw [Int.natCast_zero] at h1
    rw [List.drop_zero] at h2
    rw [if_pos (by omega), h1, Option.bind_some, Option.bind_some, h2, decide_eq_true h, Bool.true_and, Bool.not_not]
  · rw [if_neg (by omega), decide_eq_false h, Bool.false_and]
/-- The text of one diagonal, as bytes. -/
def wordD (e : S37) : List UInt8 := Lib.decDigits e.f0.toNat ++ [45] ++ Lib.decDigits e.f1.toNat
def wordS (e : S37) : ByteArray := ⟨(wordD e).toArray⟩
theorem wordS_eq (e : S37) : decS e.f0.toNat ++ (⟨#[45]⟩ : ByteArray) ++ decS e.f1.toNat = wordS e := by
  unfold decS wordS wordD
  rw [show (⟨#[45]⟩ : ByteArray) = ⟨[45].toArray⟩ from rfl, ByteArray.mk_append_mk, ByteArray.mk_append_mk]
theorem wordD_len {e : S37} (h : okL e = true) : (wordD e).length ≤ 5 := by
  have h2 := of_decide_eq_true h
  have h3 := decS_len 1 e.f0.toNat (by omega)
  have h4 := decS_len 1 e.f1.toNat (by omega)
  unfold wordD
  rw [List.length_append, List.length_append, List.length_singleton]
  omega
def joined2 (l : List S37) : List UInt8 := Lib.join (l.map wordD) [44]
theorem joined2_snoc : ∀ (l : List S37) (e : S37), l ≠ [] → joined2 (l ++ [e]) = joined2 l ++ [44] ++ wordD e := by
  intro l e hl
  match l, hl with
  | x :: r, _ =>
    unfold joined2
    rw [List.cons_append, List.map_cons, List.map_cons, List.map_append, Lib.join_cons, Lib.join_cons]
    simp [Lib.joinTail]
theorem joined2_len : ∀ (l : List S37), (∀ e ∈ l, okL e = true) → (joined2 l).length ≤ 6 * l.length := by
  intro l
  match l with
  | [] => intro _; simp [joined2, Lib.join_nil]
  | x :: r =>
    intro h
    have hl : ∀ (r : List S37), (∀ e ∈ r, okL e = true) → Lib.lens (r.map wordD) ≤ 5 * r.length := by
      intro r
      induction r with
      | nil => intro _; simp [Lib.lens]
      | cons y r ih =>
        intro h
        have h1 := ih (fun e he => h e (List.mem_cons_of_mem _ he))
        have h2 := wordD_len (h y (List.mem_cons_self ..))
        simp only [Lib.lens, List.map_cons, List.sum_cons, List.length_cons] at h1 ⊢
        omega
    have h3 := hl (x :: r) h
    unfold joined2
    rw [List.map_cons, Lib.join_length, show ([44] : List UInt8).length = 1 from rfl, Nat.one_mul, List.length_map]
    rw [List.map_cons, List.length_cons] at h3
    rw [List.length_cons]
    omega
theorem take_snoc {l : List S37} {i : Nat} (h : i < l.length) : l.take (i + 1) = l.take i ++ [rd_T37 l (i : Int)] := by
  rw [List.take_succ_eq_append_getElem h, rdT_nat h]
theorem specText_l0 (l : List S37) (hl : l.length ≤ 12) (ho : ∀ e ∈ l, okL e = true) : ∀ (d k i : Nat), i + d = l.length → d + 10 < k →
    spec_poText.l0 k ⟨(joined2 (l.take i)).toArray⟩ l (l.length : Int) (i : Int) = some ⟨(joined2 l).toArray⟩ := by
  intro d
  induction d with
  | zero =>
    intro k i hi hk
    obtain ⟨k, rfl, _⟩ := fuel hk
    simp only [spec_poText.l0]
    rw [if_neg (by omega), List.take_of_length_le (by omega)]
  | succ d ih =>
    intro k i hi hk
    obtain ⟨k, rfl⟩ : ∃ m, k = m + 1 := ⟨k - 1, by omega⟩
    have hm : rd_T37 l (i : Int) ∈ l := by rw [rdT_nat (show i < l.length by omega)]; exact List.getElem_mem _
    have h0 := ho _ hm
    have h2 := of_decide_eq_true h0
    obtain ⟨n1, _, n3⟩ := num12 (n := (rd_T37 l (i : Int)).f0) (by omega) (k := k) (by omega)
    obtain ⟨m1, _, m3⟩ := num12 (n := (rd_T37 l (i : Int)).f1) (by omega) (k := k) (by omega)
    have hj := joined2_len (l.take i) (fun e he => ho e (List.mem_of_mem_take he))
    rw [List.length_take] at hj
    have hw := wordD_len h0
    have s1 : (⟨(joined2 (l.take i)).toArray⟩ : ByteArray).size = (joined2 (l.take i)).length := by simp [ByteArray.size]
    have s2 : (wordS (rd_T37 l (i : Int))).size = (wordD (rd_T37 l (i : Int))).length := by simp [wordS, ByteArray.size]
    have s3 : ∀ a : ByteArray, (a ++ (⟨#[44]⟩ : ByteArray)).size = a.size + 1 := fun a => by rw [ByteArray.size_append]; rfl
    have s4 : ∀ a : ByteArray, (a ++ (⟨#[45]⟩ : ByteArray)).size = a.size + 1 := fun a => by rw [ByteArray.size_append]; rfl
    have hih := ih k (i + 1) (by omega) (by omega)
    rw [take_snoc (by omega)] at hih
    simp only [spec_poText.l0]
    rw [if_pos (by omega), if_pos (by omega), if_pos (by omega), n1, m1, wsucc (n := l.length) (by omega) (by omega)]
    simp only [Option.bind_some, wordS_eq]
    have c1 : (decS (rd_T37 l (i : Int)).f0.toNat).size + 1 ≤ 9223372036854775807 := by omega
    have c2 : (decS (rd_T37 l (i : Int)).f0.toNat ++ (⟨#[45]⟩ : ByteArray)).size + (decS (rd_T37 l (i : Int)).f1.toNat).size ≤ 9223372036854775807 := by rw [s4]; omega
    by_cases hz : (i : Int) > 0
    · rw [if_pos hz, if_pos (by rw [s1]; omega), if_pos c1, if_pos c2, if_pos (by rw [s3, s1, s2]; omega)]
      have hne : l.take i ≠ [] := by
        intro e
        have := congrArg List.length e
        rw [List.length_take, List.length_nil] at this
        omega
      rw [joined2_snoc _ _ hne] at hih
      rw [show (⟨#[44]⟩ : ByteArray) = ⟨[44].toArray⟩ from rfl, wordS, ByteArray.mk_append_mk, ByteArray.mk_append_mk]
      exact hih
    · rw [if_neg hz, if_pos c1, if_pos c2, if_pos (by rw [s1, s2]; omega)]
      obtain rfl : i = 0 := by omega
      rw [List.take_zero, show joined2 [] = [] from rfl, wordS, ByteArray.mk_append_mk [] (wordD _), List.nil_append]
      rw [List.take_zero, List.nil_append] at hih
      rw [show joined2 [rd_T37 l ((0 : Nat) : Int)] = wordD (rd_T37 l ((0 : Nat) : Int)) from Lib.join_one _ _] at hih
      exact hih
theorem implText_l0 (l : List S37) (hl : l.length ≤ 12) (hl1 : 0 < l.length) (ho : ∀ e ∈ l, okL e = true) : ∀ (d k i : Nat), i + d = l.length → d + 10 < k →
    impl_diagonalsText.l0 k ((l.take i).map wordS) l (l.length : Int) (i : Int) = some ⟨(joined2 l).toArray⟩ := by
  intro d
  induction d with
  | zero =>
    intro k i hi hk
    obtain ⟨k, rfl, _⟩ := fuel hk
    have hj := joined2_len l ho
    have e : (((l.map wordS).map (·.data.toList)) : List (List UInt8)) = l.map wordD := by rw [List.map_map]; rfl
    simp only [impl_diagonalsText.l0]
    rw [if_neg (by omega), List.take_of_length_le (by omega)]
    unfold strings_Join.f
    rw [e, show (⟨#[44]⟩ : ByteArray).data.toList = [44] from rfl, if_pos ⟨by rw [List.length_map]; omega, by rw [List.length_map]; omega, by show (joined2 l).length ≤ 1000000; omega⟩, Option.bind_some]
    rfl
  | succ d ih =>
    intro k i hi hk
    obtain ⟨k, rfl⟩ : ∃ m, k = m + 1 := ⟨k - 1, by omega⟩
    have hm : rd_T37 l (i : Int) ∈ l := by rw [rdT_nat (show i < l.length by omega)]; exact List.getElem_mem _
    have h0 := ho _ hm
    have h2 := of_decide_eq_true h0
    obtain ⟨_, n2, n3⟩ := num12 (n := (rd_T37 l (i : Int)).f0) (by omega) (k := k) (by omega)
    obtain ⟨_, m2, m3⟩ := num12 (n := (rd_T37 l (i : Int)).f1) (by omega) (k := k) (by omega)
    have s4 : ∀ a : ByteArray, (a ++ (⟨#[45]⟩ : ByteArray)).size = a.size + 1 := fun a => by rw [ByteArray.size_append]; rfl
    have hih := ih k (i + 1) (by omega) (by omega)
    rw [take_snoc (by omega), List.map_append, List.map_cons, List.map_nil] at hih
    simp only [impl_diagonalsText.l0]
    rw [if_pos (by omega), if_pos (by omega), if_pos (by omega), n2, m2, Option.bind_some, wsucc (n := l.length) (by omega) (by omega), if_pos (by omega), Option.bind_some, if_pos (by rw [s4]; omega), if_pos (by rw [List.length_map, List.length_take]; omega), wordS_eq]
    exact hih

def markedD : Nat → Int → List S37
  | 0, _ => []
  | n + 1, j => ⟨j, j + 1⟩ :: markedD n (j + 2)
theorem markedD_length : ∀ n j, (markedD n j).length = n
  | 0, _ => rfl
  | n + 1, j => by rw [markedD, List.length_cons, markedD_length n]
theorem markDiagonalS_l0 : ∀ (d k i : Nat) (l : List S37) (j : Int), i + d = l.length → d < k → l.length ≤ 1000000000 → 0 ≤ j → j + 2 * d ≤ 4000000000 →
    laws_markDiagonalS.l0 k l j (i : Int) = some (j + 2 * d, l.take i ++ markedD d j) := by
  intro d
  induction d with
  | zero =>
    intro k i l j hi hk hl hj hb
    obtain ⟨k, rfl, _⟩ := fuel hk
    simp only [laws_markDiagonalS.l0]
    rw [if_neg (by omega), List.take_of_length_le (by omega)]
    simp [markedD]
  | succ d ih =>
    intro k i l j hi hk hl hj hb
    obtain ⟨k, rfl, hk⟩ := fuel hk
    simp only [laws_markDiagonalS.l0]
    rw [if_pos (by omega), if_pos (by omega), Option.bind_some, wsucc (n := l.length) (by omega) (by omega), w64 (x := j + 1) (by omega) (by omega), w64 (x := j + 1 + 1) (by omega) (by omega), Int.toNat_natCast,
      List.set_set, rdT_nat (by rw [List.length_set]; omega), List.getElem_set_self,
      ih k (i + 1) _ (j + 1 + 1) (by rw [List.length_set]; omega) (by omega) (by rw [List.length_set]; omega) (by omega) (by omega)]
    rw [List.take_succ_eq_append_getElem (by rw [List.length_set]; omega), List.getElem_set_self, List.take_set_of_le (by omega), markedD, List.append_assoc, show j + 1 + 1 = j + 2 by omega]
    congr 2
    omega
theorem markDiagonalS_eq {l : List S37} {k : Nat} (hk : l.length < k) (hl : l.length ≤ 1000000000) : laws_markDiagonalS.f k l 1 = some (1 + 2 * (l.length : Int), markedD l.length 1) := by
  unfold laws_markDiagonalS.f
  have := markDiagonalS_l0 l.length k 0 l 1 (by omega) hk hl (by omega) (by omega)
  simpa using this

theorem heldDiagonalS_l0 : ∀ (d k : Nat) (p : List S37) (j : Int), d < k → p.length + d ≤ 1000000000 → 0 ≤ j → j + 2 * d ≤ 4000000000 →
    laws_heldDiagonalS.l0 k (p ++ markedD d j) j (p.length : Int) = some (j + 2 * d) := by
  intro d
  induction d with
  | zero =>
    intro k p j hk hl hj hb
    obtain ⟨k, rfl, _⟩ := fuel hk
    simp only [laws_heldDiagonalS.l0]
    rw [if_neg (by simp [markedD])]
    simp
  | succ d ih =>
    intro k p j hk hl hj hb
    obtain ⟨k, rfl, hk⟩ := fuel hk
    simp only [laws_heldDiagonalS.l0]
    have hlen : (p ++ markedD (d + 1) j).length = p.length + (d + 1) := by rw [List.length_append, markedD_length]
    have hr : rd_T37 (p ++ markedD (d + 1) j) (p.length : Int) = ⟨j, j + 1⟩ := by
      rw [rdT_nat (by omega), List.getElem_append_right (Nat.le_refl _)]
      simp [markedD]
    rw [if_pos (by omega), if_pos (by omega), hr, wsucc (n := p.length + (d + 1)) (by omega) (by omega), w64 (x := j + 1) (by omega) (by omega), w64 (x := j + 1 + 1) (by omega) (by omega), if_pos rfl, if_pos rfl]
    have h := ih k (p ++ [⟨j, j + 1⟩]) (j + 2) (by omega) (by rw [List.length_append]; simp; omega) (by omega) (by omega)
    rw [List.length_append, List.length_singleton, List.append_assoc] at h
    rw [markedD, show j + 1 + 1 = j + 2 by omega]
    refine h.trans ?_
    congr 1
    omega
theorem heldDiagonalS_eq {n k : Nat} (hk : n < k) (hl : n ≤ 1000000000) : laws_heldDiagonalS.f k (markedD n 1) 1 = some (1 + 2 * (n : Int)) := by
  unfold laws_heldDiagonalS.f
  exact heldDiagonalS_l0 n k [] 1 hk (by simpa using hl) (by omega) (by omega)

/-- The text of listed diagonals. -/
def textB (l : List S37) : ByteArray := if l = [] then ⟨#[46]⟩ else ⟨(joined2 l).toArray⟩
theorem listedB_iff {l : List S37} (h : listedB l = true) : l.length ≤ 12 ∧ ∀ e ∈ l, okL e = true := by
  unfold listedB at h
  rw [Bool.and_eq_true, decide_eq_true_iff, List.all_eq_true] at h
  exact h
theorem specText_eq {l : List S37} (h : listedB l = true) {k : Nat} (hk : 60 ≤ k) : spec_poText.f k l = some (textB l) := by
  obtain ⟨h1, h2⟩ := listedB_iff h
  unfold spec_poText.f textB
  by_cases hz : l = []
  · subst hz; rfl
  · have hp : 0 < l.length := List.length_pos_iff.2 hz
    have g1 := specText_l0 l h1 h2 l.length k 0 (by omega) (by omega)
    rw [List.take_zero, Int.natCast_zero] at g1
    rw [if_neg (by omega), if_neg hz]
    exact g1
theorem implText_eq {l : List S37} (h : listedB l = true) {k : Nat} (hk : 60 ≤ k) : impl_diagonalsText.f k l = some (textB l) := by
  obtain ⟨h1, h2⟩ := listedB_iff h
  unfold impl_diagonalsText.f textB
  by_cases hz : l = []
  · subst hz; rfl
  · have hp : 0 < l.length := List.length_pos_iff.2 hz
    have g1 := implText_l0 l h1 hp h2 l.length k 0 (by omega) (by omega)
    rw [List.take_zero, Int.natCast_zero] at g1
    rw [if_neg (by omega), if_neg hz]
    exact g1
/-- The reference's loop, byte by byte. -/
def scanS : List UInt8 → List S37 → Int → Int → List S37
  | [], o, n, low => o ++ [⟨low, n⟩]
  | b :: r, o, n, low => if b.toNat = 44 then scanS r (o ++ [⟨low, n⟩]) 0 0 else if b.toNat = 45 then scanS r o 0 n else if 48 ≤ b.toNat ∧ b.toNat ≤ 57 then scanS r o (min 100 (10 * n + ((b.toNat : Int) - 48))) low else scanS r o n low
def finS (x0 : ByteArray) (o : List S37) : List S37 × Bool := if listedB o = true then (o, (textB o).toList == x0.toList) else (o, false)
theorem bt_byte {x : ByteArray} {i : Nat} (h : i < x.size) : bt x (i : Int) = ((x.data.toList[i]'(by simpa using h)).toNat : Int) := by
  rw [← bt_at x (i : Int) (by rw [Int.toNat_natCast]; exact h)]
  simp [ByteArray.getElem_eq_getElem_data]
theorem poParse_l0 (x0 : ByteArray) (hx : x0.size ≤ 72) : ∀ (d k i : Nat) (o : List S37) (n low : Int), i + d = x0.size → 2 * d + 150 < k → 0 ≤ n → n ≤ 100 → o.length ≤ i →
    spec_poParse.l0 k x0 o n low (i : Int) = some (finS x0 (scanS (x0.data.toList.drop i) o n low)) := by
  intro d
  induction d with
  | zero =>
    intro k i o n low hi hk h0 h1 ho
    obtain ⟨k, rfl⟩ : ∃ m, k = m + 3 := ⟨k - 3, by omega⟩
    rw [spec_poParse.l0, if_pos (by omega), if_pos (by omega), spec_poParse.j1, if_pos rfl, if_pos (by omega), wsucc (n := 100) (by omega) (by omega), spec_poParse.l0, if_neg (by omega)]
    rw [List.drop_of_length_le (by simp; omega), scanS, specListed_eq _ (by omega), Option.bind_some]
    unfold finS
    cases hl : listedB (o ++ [⟨low, n⟩]) with
    | false => rfl
    | true => rw [if_pos rfl, if_pos rfl, specText_eq hl (by omega)]; rfl
  | succ d ih =>
    intro k i o n low hi hk h0 h1 ho
    obtain ⟨k, rfl⟩ : ∃ m, k = m + 2 := ⟨k - 2, by omega⟩
    have hlt : i < x0.data.toList.length := by simp; omega
    rw [List.drop_eq_getElem_cons hlt]
    have hb := bt_byte (x := x0) (i := i) (by omega)
    generalize x0.data.toList[i] = b at hb
    rw [spec_poParse.l0, if_pos (by omega), if_neg (by omega), if_pos (by omega), if_pos (by omega), spec_poParse.j1, hb, wsucc (n := 100) (by omega) (by omega)]
    have hn : b.toNat < 256 := b.toNat_lt
    rw [scanS]
    by_cases c1 : b.toNat = 44
    · rw [if_pos c1, if_pos (by rw [beq_iff_eq]; omega), if_pos (by omega)]
      exact ih _ _ _ _ _ (by omega) (by omega) (by omega) (by omega) (by rw [List.length_append, List.length_singleton]; omega)
    · rw [if_neg c1, if_neg (by rw [beq_iff_eq]; omega), if_pos (by omega), if_pos (by omega)]
      by_cases c2 : b.toNat = 45
      · rw [if_pos c2, if_pos (by omega)]
        exact ih _ _ _ _ _ (by omega) (by omega) (by omega) (by omega) (by omega)
      · rw [if_neg c2, if_neg (by omega)]
        by_cases c3 : 48 ≤ b.toNat
        · rw [if_pos (by omega)]
          by_cases c4 : b.toNat ≤ 57
          · rw [if_pos (by omega), if_pos ⟨c3, c4⟩]
            have e : wrap64 (wrap64 (10 * n) + ((b.toNat : Int) - 48) % 256) = 10 * n + ((b.toNat : Int) - 48) := by
              rw [w64 (x := 10 * n) (by omega) (by omega), show ((b.toNat : Int) - 48) % 256 = (b.toNat : Int) - 48 by omega, w64 (by omega) (by omega)]
            rw [e]
            unfold spec_l1Least.f
            by_cases c5 : 100 < 10 * n + ((b.toNat : Int) - 48)
            · rw [if_pos c5, Option.bind_some, show min 100 (10 * n + ((b.toNat : Int) - 48)) = 100 by omega]
              exact ih _ _ _ _ _ (by omega) (by omega) (by omega) (by omega) (by omega)
            · rw [if_neg c5, Option.bind_some, show min 100 (10 * n + ((b.toNat : Int) - 48)) = 10 * n + ((b.toNat : Int) - 48) by omega]
              exact ih _ _ _ _ _ (by omega) (by omega) (by omega) (by omega) (by omega)
          · rw [if_neg (by omega), if_neg (by omega)]
            exact ih _ _ _ _ _ (by omega) (by omega) (by omega) (by omega) (by omega)
        · rw [if_neg (by omega), if_neg (by omega)]
          exact ih _ _ _ _ _ (by omega) (by omega) (by omega) (by omega) (by omega)
/-- The numerals of the corners. -/
theorem dec_small {m : Nat} (h : m < 10) : Lib.decDigits m = [UInt8.ofNat (48 + m)] := by rw [Lib.decDigits, dif_pos h]
theorem dec_ten {m : Nat} (h : 10 ≤ m) (h2 : m ≤ 11) : Lib.decDigits m = [49, UInt8.ofNat (48 + m % 10)] := by
  rw [Lib.decDigits, dif_neg (by omega), dec_small (by omega), show m / 10 = 1 by omega]
  rfl
theorem dig_nat {m : Nat} (h : m < 10) : (UInt8.ofNat (48 + m)).toNat = 48 + m := by
  rw [UInt8.toNat_ofNat']
  omega
theorem scanS_digit {m : Nat} (h : m < 10) (r : List UInt8) (o : List S37) (n low : Int) (h0 : 0 ≤ n) (h1 : n ≤ 9) : scanS (UInt8.ofNat (48 + m) :: r) o n low = scanS r o (10 * n + m) low := by
  rw [scanS, dig_nat h, if_neg (by omega), if_neg (by omega), if_pos (by omega)]
  congr 1
  omega
theorem scanS_num {m : Nat} (h : m ≤ 11) (r : List UInt8) (o : List S37) (low : Int) : scanS (Lib.decDigits m ++ r) o 0 low = scanS r o (m : Int) low := by
  by_cases h9 : m < 10
  · rw [dec_small h9, List.singleton_append, scanS_digit h9 r o 0 low (by omega) (by omega)]
    congr 1
    omega
  · rw [dec_ten (by omega) h, List.cons_append, List.singleton_append]
    have e := scanS_digit (m := 1) (by omega) (UInt8.ofNat (48 + m % 10) :: r) o 0 low (by omega) (by omega)
    rw [show UInt8.ofNat (48 + 1) = 49 from rfl] at e
    rw [e, scanS_digit (m := m % 10) (by omega) r o _ low (by omega) (by omega)]
    congr 1
    omega
theorem scanS_word {e : S37} (h : okL e = true) (r : List UInt8) (o : List S37) : scanS (wordD e ++ r) o 0 0 = scanS r o e.f1 e.f0 := by
  have h2 := of_decide_eq_true h
  unfold wordD
  rw [List.append_assoc, List.append_assoc, scanS_num (by omega), List.singleton_append, scanS]
  rw [if_neg (by decide), if_pos (by decide), scanS_num (by omega)]
  congr 1 <;> omega
theorem scanS_join : ∀ (r : List S37) (x : S37) (o : List S37), (∀ e ∈ x :: r, okL e = true) → scanS (wordD x ++ Lib.joinTail [44] (r.map wordD)) o 0 0 = o ++ (x :: r) := by
  intro r
  induction r with
  | nil =>
    intro x o h
    rw [scanS_word (h x (List.mem_cons_self ..))]
    rfl
  | cons y r ih =>
    intro x o h
    rw [scanS_word (h x (List.mem_cons_self ..))]
    have e : Lib.joinTail [44] ((y :: r).map wordD) = 44 :: (wordD y ++ Lib.joinTail [44] (r.map wordD)) := by simp [Lib.joinTail]
    rw [e, scanS, if_pos (by decide), ih y _ (fun z hz => h z (List.mem_cons_of_mem _ hz)), List.append_assoc]
    rfl
/-- The diagonals with this text. -/
def Reads (a0 : ByteArray) (l : List S37) : Prop := listedB l = true ∧ (textB l).toList = a0.toList
theorem reads_data {a0 : ByteArray} {l : List S37} (h : Reads a0 l) (hd : a0.toList ≠ ([46] : List UInt8)) : l ≠ [] ∧ a0.data.toList = joined2 l := by
  have h2 := h.2
  rw [Lib.toList_data, Lib.toList_data] at h2
  rw [Lib.toList_data] at hd
  unfold textB at h2
  by_cases hz : l = []
  · rw [if_pos hz] at h2
    exact absurd h2.symm hd
  · rw [if_neg hz] at h2
    exact ⟨hz, h2.symm⟩
theorem scan_reads {a0 : ByteArray} {l : List S37} (h : Reads a0 l) (hd : a0.toList ≠ ([46] : List UInt8)) : scanS a0.data.toList [] 0 0 = l := by
  obtain ⟨hz, e⟩ := reads_data h hd
  have h2 := (listedB_iff h.1).2
  match l, hz, e, h2 with
  | x :: r, _, e, h2 =>
    rw [e]
    unfold joined2
    rw [List.map_cons, Lib.join_cons, scanS_join r x [] h2, List.nil_append]
theorem reads_size {a0 : ByteArray} {l : List S37} (h : Reads a0 l) (hd : a0.toList ≠ ([46] : List UInt8)) : a0.size ≤ 72 := by
  obtain ⟨_, e⟩ := reads_data h hd
  obtain ⟨h1, h2⟩ := listedB_iff h.1
  have h3 := joined2_len l h2
  rw [← e] at h3
  have : a0.data.toList.length = a0.size := by simp
  omega
theorem spec_no {a0 : ByteArray} (hd : a0.toList ≠ ([46] : List UInt8)) (hn : ¬ ∃ l, Reads a0 l) {k : Nat} (hk : 400 ≤ k) : spec_ParseDiagonals.f k a0 = some ([], false) := by
  unfold spec_ParseDiagonals.f spec_poParse.f
  rw [if_neg hd]
  by_cases hs : (a0.size : Int) > 72
  · rw [if_pos hs]; rfl
  · have e := poParse_l0 a0 (by omega) a0.size k 0 [] 0 0 (by omega) (by omega) (by omega) (by omega) (by simp)
    rw [Int.natCast_zero, List.drop_zero] at e
    rw [if_neg hs, e, Option.bind_some]
    unfold finS
    by_cases hl : listedB (scanS a0.data.toList [] 0 0) = true
    · rw [if_pos hl, if_neg]
      intro hb
      exact hn ⟨_, hl, beq_iff_eq.1 hb⟩
    · rw [if_neg hl]; rfl
theorem spec_yes {a0 : ByteArray} {l : List S37} (h : Reads a0 l) (hd : a0.toList ≠ ([46] : List UInt8)) {k : Nat} (hk : 400 ≤ k) : spec_ParseDiagonals.f k a0 = some (l, true) := by
  unfold spec_ParseDiagonals.f spec_poParse.f
  have hs := reads_size h hd
  have e := poParse_l0 a0 (by omega) a0.size k 0 [] 0 0 (by omega) (by omega) (by omega) (by omega) (by simp)
  rw [Int.natCast_zero, List.drop_zero, scan_reads h hd] at e
  rw [if_neg hd, if_neg (by omega), e, Option.bind_some]
  unfold finS
  rw [if_pos h.1, h.2, beq_self_eq_true]
  rfl
/-! The program's own way: split, cut, numbers. -/
def atoiV (a : ByteArray) : Int × Option Int := match Lib.atoiAll a.data.toList with | .ok v => (v, none) | .range => (Lib.atoiSat a.data.toList, some 0) | _ => (0, some 0)
theorem atoi_eq {a : ByteArray} (h : a.size ≤ 2000000) : strconv_Atoi.f a = some (atoiV a) := by
  unfold strconv_Atoi.f
  rw [if_pos h]
  rfl
def cutA (w : ByteArray) : ByteArray := ⟨(Lib.cut w.data.toList [45]).1.toArray⟩
def cutB (w : ByteArray) : ByteArray := ⟨(Lib.cut w.data.toList [45]).2.1.toArray⟩
theorem cut_len (l s : List UInt8) : (Lib.cut l s).1.length ≤ l.length ∧ (Lib.cut l s).2.1.length ≤ l.length := by
  unfold Lib.cut
  split
  · exact ⟨by rw [List.length_take]; omega, by rw [List.length_drop]; omega⟩
  · exact ⟨Nat.le_refl _, Nat.zero_le _⟩
theorem cutA_size (w : ByteArray) : (cutA w).size ≤ w.size := by
  have h := (cut_len w.data.toList [45]).1
  have e : w.data.toList.length = w.size := by simp
  unfold cutA
  simp only [ByteArray.size, List.size_toArray]
  simp only [ByteArray.size] at e
  omega
theorem cutB_size (w : ByteArray) : (cutB w).size ≤ w.size := by
  have h := (cut_len w.data.toList [45]).2
  have e : w.data.toList.length = w.size := by simp
  unfold cutB
  simp only [ByteArray.size, List.size_toArray]
  simp only [ByteArray.size] at e
  omega
theorem cut_eq {w : ByteArray} (h : w.size ≤ 2000000) : strings_Cut.f w (⟨#[45]⟩ : ByteArray) = some (cutA w, cutB w, (Lib.cut w.data.toList [45]).2.2) := by
  unfold strings_Cut.f
  rw [if_pos h]
  rfl
def scanI : List ByteArray → List S37 → Option (List S37)
  | [], o => some o
  | w :: r, o => if (atoiV (cutA w)).2.isNone = true then (if (atoiV (cutB w)).2.isNone = true then scanI r (o ++ [⟨(atoiV (cutA w)).1, (atoiV (cutB w)).1⟩]) else none) else none
def finI (a0 : ByteArray) : Option (List S37) → List S37 × Bool
  | none => ([], false)
  | some o => if listedB o = true then (if (textB o).toList = a0.toList then (o, true) else ([], false)) else ([], false)
theorem parse_l0 (a0 : ByteArray) (ws : List ByteArray) (hw : ws.length ≤ 100) (hs : ∀ w ∈ ws, w.size ≤ 2000000) : ∀ (d k i : Nat) (o : List S37), i + d = ws.length → d + 150 < k → o.length ≤ i →
    impl_ParseDiagonals.l0 k a0 o ws (ws.length : Int) (i : Int) = some (finI a0 (scanI (ws.drop i) o)) := by
  intro d
  induction d with
  | zero =>
    intro k i o hi hk ho
    obtain ⟨k, rfl⟩ : ∃ m, k = m + 1 := ⟨k - 1, by omega⟩
    simp only [impl_ParseDiagonals.l0]
    rw [if_neg (by omega), List.drop_of_length_le (by omega), scanI, finI, implListed_eq _ (by omega), Option.bind_some]
    cases hl : listedB o with
    | false => rfl
    | true =>
      rw [if_pos rfl, if_pos rfl, implText_eq hl (by omega), Option.bind_some]
      split <;> rfl
  | succ d ih =>
    intro k i o hi hk ho
    obtain ⟨k, rfl⟩ : ∃ m, k = m + 1 := ⟨k - 1, by omega⟩
    have hlt : i < ws.length := by omega
    have hg : rdOf ByteArray.empty ws (i : Int) = ws[i] := by
      unfold rdOf
      rw [Int.toNat_natCast, List.getD_eq_getElem?_getD, List.getElem?_eq_getElem hlt]
      rfl
    have hz := hs _ (List.getElem_mem hlt)
    rw [List.drop_eq_getElem_cons hlt]
    simp only [impl_ParseDiagonals.l0]
    rw [if_pos (by omega), if_pos (by omega), if_pos (by omega), hg]
    generalize ws[i] = w at hz
    have ha := cutA_size w
    have hb := cutB_size w
    rw [cut_eq hz, Option.bind_some]
    dsimp only
    rw [atoi_eq (by omega), Option.bind_some, atoi_eq (by omega), Option.bind_some, scanI, wsucc (n := 100) (by omega) (by omega)]
    by_cases c1 : (atoiV (cutA w)).2.isNone = true
    · rw [if_pos c1, if_pos c1]
      by_cases c2 : (atoiV (cutB w)).2.isNone = true
      · rw [if_pos c2, if_pos c2, if_pos (by omega)]
        exact ih k (i + 1) _ (by omega) (by omega) (by rw [List.length_append, List.length_singleton]; omega)
      · rw [if_neg c2, if_neg c2]; rfl
    · rw [if_neg c1, if_neg c1]; rfl
theorem idx_none : ∀ {l : List UInt8} {c : UInt8}, (∀ b ∈ l, b ≠ c) → Lib.index l [c] = -1 := by
  intro l c h
  rw [Lib.index_one]
  induction l with
  | nil => rfl
  | cons b l ih =>
    rw [Lib.indexByte, if_neg (by rw [beq_iff_eq]; exact h b (List.mem_cons_self ..)), ih (fun x hx => h x (List.mem_cons_of_mem _ hx))]
    rfl
theorem idx_at : ∀ {l r : List UInt8} {c : UInt8}, (∀ b ∈ l, b ≠ c) → Lib.index (l ++ c :: r) [c] = (l.length : Int) := by
  intro l r c h
  rw [Lib.index_one]
  induction l with
  | nil => rw [List.nil_append, Lib.indexByte, if_pos (beq_self_eq_true c)]; rfl
  | cons b l ih =>
    have e := ih (fun x hx => h x (List.mem_cons_of_mem _ hx))
    rw [List.cons_append, Lib.indexByte, if_neg (by rw [beq_iff_eq]; exact h b (List.mem_cons_self ..)), e, if_neg (by rw [beq_iff_eq]; omega), List.length_cons]
    omega
theorem split_join : ∀ (r : List (List UInt8)) (x : List UInt8) (k : Nat), (∀ w ∈ x :: r, ∀ b ∈ w, b ≠ (44 : UInt8)) → r.length ≤ k → Lib.splitK [44] 0 k (x ++ Lib.joinTail [44] r) = x :: r := by
  intro r
  induction r with
  | nil =>
    intro x k h hk
    have e : x ++ Lib.joinTail [44] [] = x := by simp [Lib.joinTail]
    rw [e]
    cases k with
    | zero => rfl
    | succ k => rw [Lib.splitK, idx_none (h x (List.mem_cons_self ..)), if_pos (beq_self_eq_true _)]
  | cons y r ih =>
    intro x k h hk
    rw [List.length_cons] at hk
    obtain ⟨k, rfl⟩ : ∃ m, k = m + 1 := ⟨k - 1, by omega⟩
    have e : x ++ Lib.joinTail [44] (y :: r) = x ++ 44 :: (y ++ Lib.joinTail [44] r) := by simp [Lib.joinTail]
    rw [e, Lib.splitK, idx_at (h x (List.mem_cons_self ..)), if_neg (by rw [beq_iff_eq]; omega), Int.toNat_natCast, Nat.add_zero, List.take_left, List.length_singleton]
    rw [show (x ++ 44 :: (y ++ Lib.joinTail [44] r)).drop (x.length + 1) = y ++ Lib.joinTail [44] r by simp]
    rw [ih y k (fun w hw => h w (List.mem_cons_of_mem _ hw)) (by omega)]
theorem tail_len : ∀ r : List (List UInt8), r.length ≤ (Lib.joinTail [44] r).length
  | [] => Nat.zero_le _
  | y :: r => by
    have := tail_len r
    have e : Lib.joinTail [44] (y :: r) = 44 :: (y ++ Lib.joinTail [44] r) := by simp [Lib.joinTail]
    rw [e, List.length_cons, List.length_cons, List.length_append]
    omega
theorem dec_digit {m : Nat} (h : m ≤ 11) : ∀ b ∈ Lib.decDigits m, 48 ≤ b.toNat ∧ b.toNat ≤ 57 := by
  intro b hb
  by_cases h9 : m < 10
  · rw [dec_small h9, List.mem_singleton] at hb
    rw [hb, dig_nat h9]
    omega
  · rw [dec_ten (by omega) h, List.mem_cons, List.mem_singleton] at hb
    rcases hb with rfl | rfl
    · decide
    · rw [dig_nat (by omega)]
      omega
theorem ne_of_digit {b c : UInt8} (h : 48 ≤ b.toNat ∧ b.toNat ≤ 57) (hc : c.toNat < 48) : b ≠ c := by
  intro e
  rw [e] at h
  omega
theorem word_comma {e : S37} (h : okL e = true) : ∀ b ∈ wordD e, b ≠ (44 : UInt8) := by
  have h2 := of_decide_eq_true h
  intro b hb
  unfold wordD at hb
  rw [List.mem_append, List.mem_append, List.mem_singleton] at hb
  rcases hb with (hb | rfl) | hb
  · exact ne_of_digit (dec_digit (by omega) b hb) (by decide)
  · decide
  · exact ne_of_digit (dec_digit (by omega) b hb) (by decide)
theorem cut_word {e : S37} (h : okL e = true) : cutA (wordS e) = decS e.f0.toNat ∧ cutB (wordS e) = decS e.f1.toNat := by
  have h2 := of_decide_eq_true h
  have ei := idx_at (l := Lib.decDigits e.f0.toNat) (r := Lib.decDigits e.f1.toNat) (c := 45) (fun b hb => ne_of_digit (dec_digit (by omega) b hb) (by decide))
  have ew : (wordS e).data.toList = Lib.decDigits e.f0.toNat ++ 45 :: Lib.decDigits e.f1.toNat := by
    unfold wordS wordD
    simp
  unfold cutA cutB decS
  rw [ew]
  unfold Lib.cut
  rw [ei, if_pos (by omega), Int.toNat_natCast]
  refine ⟨by simp, ?_⟩
  rw [List.length_singleton]
  simp
theorem parse_dec {m : Nat} (h : m ≤ 11) : atoiV (decS m) = ((m : Int), none) := by
  have e : Lib.atoiAll (Lib.decDigits m) = .ok (m : Int) := by
    by_cases h9 : m < 10
    · rw [dec_small h9]
      rcases (by omega : m = 0 ∨ m = 1 ∨ m = 2 ∨ m = 3 ∨ m = 4 ∨ m = 5 ∨ m = 6 ∨ m = 7 ∨ m = 8 ∨ m = 9) with rfl | rfl | rfl | rfl | rfl | rfl | rfl | rfl | rfl | rfl <;> rfl
    · rw [dec_ten (by omega) h]
      rcases (by omega : m = 10 ∨ m = 11) with rfl | rfl <;> rfl
  unfold atoiV decS
  rw [e]
theorem scanI_words : ∀ (l o : List S37), (∀ e ∈ l, okL e = true) → scanI (l.map wordS) o = some (o ++ l) := by
  intro l
  induction l with
  | nil => intro o _; rw [List.append_nil]; rfl
  | cons e l ih =>
    intro o h
    have he := h e (List.mem_cons_self ..)
    have h2 := of_decide_eq_true he
    obtain ⟨c1, c2⟩ := cut_word he
    have e0 : (⟨((e.f0.toNat : Nat) : Int), ((e.f1.toNat : Nat) : Int)⟩ : S37) = e := by
      rw [show ((e.f0.toNat : Nat) : Int) = e.f0 by omega, show ((e.f1.toNat : Nat) : Int) = e.f1 by omega]
    rw [List.map_cons, scanI, c1, c2, parse_dec (by omega), parse_dec (by omega)]
    show scanI (l.map wordS) (o ++ [⟨((e.f0.toNat : Nat) : Int), ((e.f1.toNat : Nat) : Int)⟩]) = _
    rw [e0, ih _ (fun z hz => h z (List.mem_cons_of_mem _ hz)), List.append_assoc]
    rfl
def wordsOf (a0 : ByteArray) : List ByteArray := Lib.splitB ⟨#[44]⟩ 0 (min 14 (a0.size + 1) - 1) a0
theorem splitB_size (sep : ByteArray) : ∀ (k : Nat) (s w : ByteArray), w ∈ Lib.splitB sep 0 k s → w.size ≤ s.size := by
  intro k
  induction k with
  | zero =>
    intro s w hw
    rw [Lib.splitB_zero, List.mem_singleton] at hw
    rw [hw]
    exact Nat.le_refl _
  | succ k ih =>
    intro s w hw
    unfold Lib.splitB at hw
    split at hw
    · rw [List.mem_singleton] at hw
      rw [hw]
      exact Nat.le_refl _
    · rw [List.mem_cons] at hw
      rcases hw with rfl | hw
      · rw [ByteArray.size_extract]
        omega
      · have := ih _ _ hw
        rw [ByteArray.size_extract] at this
        omega
theorem words_reads {a0 : ByteArray} {l : List S37} (h : Reads a0 l) (hd : a0.toList ≠ ([46] : List UInt8)) : wordsOf a0 = l.map wordS := by
  obtain ⟨hz, e⟩ := reads_data h hd
  obtain ⟨h1, h2⟩ := listedB_iff h.1
  have e1 := Lib.splitB_data ⟨#[44]⟩ 0 (min 14 (a0.size + 1) - 1) a0
  have hsz : a0.data.toList.length = a0.size := by simp
  match l, hz, e, h1, h2 with
  | x :: r, _, e, h1, h2 =>
    have hw : ∀ w ∈ (wordD x :: r.map wordD), ∀ b ∈ w, b ≠ (44 : UInt8) := by
      intro w hw
      rw [← List.map_cons, List.mem_map] at hw
      obtain ⟨z, hz, rfl⟩ := hw
      exact word_comma (h2 z hz)
    have ej : joined2 (x :: r) = wordD x ++ Lib.joinTail [44] (r.map wordD) := by
      unfold joined2
      rw [List.map_cons, Lib.join_cons]
    have ht := tail_len (r.map wordD)
    rw [List.length_map] at ht
    rw [List.length_cons] at h1
    have hl : (r.map wordD).length ≤ min 14 (a0.size + 1) - 1 := by
      rw [e, ej, List.length_append] at hsz
      rw [List.length_map]
      omega
    rw [e, ej, show (⟨#[44]⟩ : ByteArray).data.toList = [44] from rfl, split_join (r.map wordD) (wordD x) _ hw hl] at e1
    have e2 : ((wordsOf a0).map (·.data.toList)).map (fun q : List UInt8 => (⟨q.toArray⟩ : ByteArray)) = wordsOf a0 := by
      rw [List.map_map]
      conv => rhs; rw [← List.map_id (wordsOf a0)]
      apply List.map_congr_left
      intro q _
      simp
    rw [← e2]
    unfold wordsOf
    rw [e1, ← List.map_cons, List.map_map]
    rfl
theorem impl_eq {a0 : ByteArray} (hs : a0.size ≤ 1048576) (hd : a0.toList ≠ ([46] : List UInt8)) {k : Nat} (hk : 400 ≤ k) : impl_ParseDiagonals.f k a0 = some (finI a0 (scanI (wordsOf a0) [])) := by
  unfold impl_ParseDiagonals.f strings_SplitN.f
  rw [if_neg hd, if_pos ⟨by omega, by decide, by decide, by decide⟩, Option.bind_some]
  have hl := Lib.splitB_length_le ⟨#[44]⟩ 0 (min 14 (a0.size + 1) - 1) a0
  have e := parse_l0 a0 (wordsOf a0) (by unfold wordsOf; omega) (fun w hw => by have := splitB_size _ _ _ _ hw; omega) (wordsOf a0).length k 0 [] (by omega) (by unfold wordsOf; omega) (by simp)
  rw [Int.natCast_zero, List.drop_zero] at e
  exact e
theorem impl_yes {a0 : ByteArray} {l : List S37} (h : Reads a0 l) (hs : a0.size ≤ 1048576) (hd : a0.toList ≠ ([46] : List UInt8)) {k : Nat} (hk : 400 ≤ k) : impl_ParseDiagonals.f k a0 = some (l, true) := by
  rw [impl_eq hs hd hk, words_reads h hd, scanI_words _ _ (listedB_iff h.1).2, List.nil_append, finI, if_pos h.1, if_pos h.2]
theorem impl_no {a0 : ByteArray} (hn : ¬ ∃ l, Reads a0 l) (hs : a0.size ≤ 1048576) (hd : a0.toList ≠ ([46] : List UInt8)) {k : Nat} (hk : 400 ≤ k) : impl_ParseDiagonals.f k a0 = some ([], false) := by
  rw [impl_eq hs hd hk]
  cases scanI (wordsOf a0) [] with
  | none => rfl
  | some o =>
    rw [finI]
    by_cases hl : listedB o = true
    · rw [if_pos hl, if_neg (fun ht => hn ⟨o, hl, ht⟩)]
    · rw [if_neg hl]
theorem both (a0 : ByteArray) (hs : a0.size ≤ 1048576) : ∃ (q : List S37) (b : Bool), q.length ≤ 12 ∧ ∀ k, 400 ≤ k → spec_ParseDiagonals.f k a0 = some (q, b) ∧ impl_ParseDiagonals.f k a0 = some (q, b) := by
  by_cases hd : a0.toList = ([46] : List UInt8)
  · refine ⟨[], true, by simp, fun k hk => ?_⟩
    unfold spec_ParseDiagonals.f spec_poParse.f impl_ParseDiagonals.f
    rw [if_pos hd, if_pos hd]
    exact ⟨rfl, rfl⟩
  · by_cases h : ∃ l, Reads a0 l
    · obtain ⟨l, h⟩ := h
      exact ⟨l, true, (listedB_iff h.1).1, fun k hk => ⟨spec_yes h hd hk, impl_yes h hs hd hk⟩⟩
    · exact ⟨[], false, by simp, fun k hk => ⟨spec_no hd h hk, impl_no h hs hd hk⟩⟩
theorem FnExactParseDiagonals : laws_FnExactParseDiagonals.Pure := by
  intro a0 _
  refine ⟨1000, ?_⟩
  unfold laws_FnExactParseDiagonals.f
  by_cases h : (a0.size : Int) > 1048576
  · rw [if_pos h]
  · rw [if_neg h]
    obtain ⟨q, b, hq, hr⟩ := both a0 (by omega)
    have hS : spec_ParseDiagonals.f 1000 a0 = some (q, b) := (hr _ (by omega)).1
    have hI : ∀ k, 400 ≤ k → impl_ParseDiagonals.f k a0 = some (q, b) := fun k hk => (hr _ (by omega)).2
    have hE : ∀ k, 400 ≤ k → laws_eqDiagonalS.f k q q = some true := fun k hk => eqDiagonalS_self (by omega) (by omega)
    have hM : ∀ k, 400 ≤ k → laws_markDiagonalS.f k q 1 = some (1 + 2 * (q.length : Int), markedD q.length 1) := fun k hk => markDiagonalS_eq (by omega) (by omega)
    have hH : ∀ k, 400 ≤ k → laws_heldDiagonalS.f k (markedD q.length 1) 1 = some (1 + 2 * (q.length : Int)) := fun k hk => heldDiagonalS_eq (by omega) (by omega)
    rw [hS, Option.bind_some, hI _ (by omega), Option.bind_some, hE _ (by omega), Option.bind_some, if_pos rfl, bne_self_eq_false]
    simp only [laws_FnExactParseDiagonals.j0]
    rw [if_neg Bool.false_ne_true, hM _ (by omega), Option.bind_some, hH _ (by omega), Option.bind_some, if_neg (by omega), if_pos rfl, hI _ (by omega), Option.bind_some, hE _ (by omega), Option.bind_some, if_pos rfl, bne_self_eq_false]
    simp only [laws_FnExactParseDiagonals.j1]
    rw [if_neg Bool.false_ne_true, hH _ (by omega), Option.bind_some, if_neg (by omega), if_pos rfl]

end Go.Proofs.YtcfcnnnkpdhecaaDoor.Pure
