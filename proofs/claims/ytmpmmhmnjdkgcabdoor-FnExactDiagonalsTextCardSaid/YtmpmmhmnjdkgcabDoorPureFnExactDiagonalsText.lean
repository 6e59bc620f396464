/- The plain statement of FnExactDiagonalsText, over numbers and lists: the program's answer is the reference's. -/
import Derived.Test.YtmpmmhmnjdkgcabDoorPFnExactDiagonalsTextx
set_option linter.unusedVariables false
set_option linter.unusedSimpArgs false
namespace Go.Proofs.YtmpmmhmnjdkgcabDoor.Pure
open Go.RowKit Go.Proofs.YtmpmmhmnjdkgcabDoor.PFnExactDiagonalsText Go.Proofs.YtmpmmhmnjdkgcabDoorW.PrintWords Go.Proofs.YtmpmmhmnjdkgcabDoorW.PrintLast

theorem w64 {x : Int} (h0 : -9223372036854775808 ≤ x) (h1 : x ≤ 9223372036854775807) : wrap64 x = x := by
  unfold wrap64
  omega
theorem wf_i64 {x : Int} (h : (Lit.int .i64 x).wf = true) : -9223372036854775808 ≤ x ∧ x ≤ 9223372036854775807 := by
  simp [Lit.wf, IntKind.min, IntKind.max, IntKind.signed, IntKind.bits] at h
  omega

theorem rd_nat {l : List Int} {i : Nat} (h : i < l.length) : rd l (i : Int) = l[i] := by
  unfold rd
  rw [Int.toNat_natCast, List.getD_eq_getElem?_getD, List.getElem?_eq_getElem h]
  rfl
theorem rd_drop {l : List Int} {i : Nat} (h : i < l.length) : l.drop i = rd l (i : Int) :: l.drop (i + 1) := by
  rw [rd_nat h, ← List.drop_eq_getElem_cons h]
theorem wsucc {i n : Nat} (h : i < n) (hn : n ≤ 9223372036854775807) : wrap64 ((i : Int) + 1) = ((i + 1 : Nat) : Int) := by
  rw [w64 (by omega) (by omega)]
  omega
theorem ite_t {α : Sort _} {a b : α} : (if true = true then a else b) = a := if_pos rfl
theorem ite_f {α : Sort _} {a b : α} : (if false = true then a else b) = b := if_neg (by decide)
theorem fuel {k d : Nat} (h : d < k) : ∃ m, k = m + 1 ∧ d ≤ m := ⟨k - 1, by omega, by omega⟩

/-- A number's decimal numeral, as a string. -/
def decS (n : Nat) : ByteArray := ⟨(Lib.decDigits n).toArray⟩
theorem decS_len : ∀ (d n : Nat), n < 10 ^ (d + 1) → (Lib.decDigits n).length ≤ d + 1 := by
  intro d
  induction d with
  | zero =>
    intro n h
    rw [Lib.decDigits, dif_pos (by omega)]
    simp
  | succ d ih =>
    intro n h
    rw [Lib.decDigits]
    split
    · simp
    · rw [Nat.pow_succ] at h
      have := ih (n / 10) (by omega)
      rw [List.length_append, List.length_singleton]
      omega
theorem size_decS (n : Nat) : (decS n).size = (Lib.decDigits n).length := by simp [decS, ByteArray.size]
theorem digit_byte {n : Nat} (h : n < 10) : strOfNums [(wrap64 (48 + (n : Int))) % 256] = ⟨[UInt8.ofNat (48 + n)].toArray⟩ := by
  rw [w64 (by omega) (by omega), show (48 + (n : Int)) % 256 = ((48 + n : Nat) : Int) by omega]
  rfl
theorem l1Num_eq : ∀ (d n k : Nat), n < 10 ^ (d + 1) → d ≤ 18 → d < k → n ≤ 9223372036854775807 → spec_l1Num.f k (n : Int) = some (decS n) := by
  intro d
  induction d with
  | zero =>
    intro n k h hd hk hn
    obtain ⟨k, rfl, _⟩ := fuel hk
    simp only [spec_l1Num.f]
    rw [if_pos (by omega), digit_byte (by omega)]
    unfold decS
    rw [Lib.decDigits, dif_pos (by omega)]
  | succ d ih =>
    intro n k h hd hk hn
    obtain ⟨k, rfl, hk⟩ := fuel hk
    rw [Nat.pow_succ] at h
    simp only [spec_l1Num.f]
    by_cases h9 : n < 10
    · rw [if_pos (by omega), digit_byte h9]
      unfold decS
      rw [Lib.decDigits, dif_pos h9]
    · have hdiv : Int.tdiv (n : Int) 10 = ((n / 10 : Nat) : Int) := by rw [Int.tdiv_eq_ediv_of_nonneg (by omega)]; omega
      have hmod : Int.tmod (n : Int) 10 = ((n % 10 : Nat) : Int) := by rw [Int.tmod_eq_emod_of_nonneg (by omega)]; omega
      have hl := decS_len d (n / 10) (by omega)
      rw [if_neg (by omega), hdiv, w64 (x := ((n / 10 : Nat) : Int)) (by omega) (by omega), ih (n / 10) k (by omega) (by omega) (by omega) (by omega), Option.bind_some, Option.bind_some, hmod, digit_byte (n := n % 10) (by omega), if_pos (by rw [size_decS]; simp only [ByteArray.size, List.size_toArray, List.length_singleton]; omega)]
      unfold decS
      rw [ByteArray.mk_append_mk, Lib.decDigits.eq_1 n, dif_neg h9]

theorem rdT_nat {l : List S33} {i : Nat} (h : i < l.length) : rd_T33 l (i : Int) = l[i] := by
  unfold rd_T33
  rw [Int.toNat_natCast, List.getD_eq_getElem?_getD, List.getElem?_eq_getElem h]
  rfl
theorem rdT_drop {l : List S33} {i : Nat} (h : i < l.length) : l.drop i = rd_T33 l (i : Int) :: l.drop (i + 1) := by
  rw [rdT_nat h, ← List.drop_eq_getElem_cons h]
theorem eqDiagonal_self (a b : Int) : laws_eqDiagonal.f a b a b = some true := by
  unfold laws_eqDiagonal.f
  rw [if_pos rfl, if_pos rfl]
theorem eqDiagonalS_l0 (l : List S33) (hl : l.length ≤ 9223372036854775807) : ∀ (d k i : Nat), i + d = l.length → d < k → laws_eqDiagonalS.l0 k l l (i : Int) = some true := by
  intro d
  induction d with
  | zero =>
    intro k i hi hk
    obtain ⟨k, rfl, _⟩ := fuel hk
    simp only [laws_eqDiagonalS.l0]
    rw [if_neg (by omega)]
  | succ d ih =>
    intro k i hi hk
    obtain ⟨k, rfl, hk⟩ := fuel hk
    simp only [laws_eqDiagonalS.l0]
    rw [if_pos (by omega), if_pos (by omega), if_pos (by omega), eqDiagonal_self, Option.bind_some, if_pos rfl, wsucc (n := l.length) (by omega) hl]
    exact ih k (i + 1) (by omega) (by omega)
theorem eqDiagonalS_self {l : List S33} {k : Nat} (hl : l.length ≤ 9223372036854775807) (hk : l.length < k) : laws_eqDiagonalS.f k l l = some true := by
  unfold laws_eqDiagonalS.f
  rw [if_pos rfl]
  exact eqDiagonalS_l0 l hl l.length k 0 (by omega) hk

def cvD (x : S35) : S33 := ⟨x.f0, x.f1⟩
theorem rdL_nat {l : List S35} {i : Nat} (h : i < l.length) : rd_T35 l (i : Int) = l[i] := by
  unfold rd_T35
  rw [Int.toNat_natCast, List.getD_eq_getElem?_getD, List.getElem?_eq_getElem h]
  rfl
theorem toDiagonalS_l0 (l : List S35) (hl : l.length ≤ 9223372036854775807) : ∀ (d k i : Nat) (m : List S33), i + d = l.length → d < k → m.length = l.length → m.take i = (l.map cvD).take i →
    laws_toDiagonalS.l0 k l m (i : Int) = some (l.map cvD) := by
  intro d
  induction d with
  | zero =>
    intro k i m hi hk hm ht
    obtain ⟨k, rfl, _⟩ := fuel hk
    simp only [laws_toDiagonalS.l0]
    rw [if_neg (by omega)]
    rw [List.take_of_length_le (by omega), List.take_of_length_le (by rw [List.length_map]; omega)] at ht
    rw [ht]
  | succ d ih =>
    intro k i m hi hk hm ht
    obtain ⟨k, rfl, hk⟩ := fuel hk
    simp only [laws_toDiagonalS.l0, laws_toDiagonal.f]
    rw [if_pos (by omega), if_pos (by omega), Option.bind_some, if_pos (by omega), wsucc (n := l.length) (by omega) hl, Int.toNat_natCast]
    refine ih k (i + 1) _ (by omega) (by omega) (by rw [List.length_set]; exact hm) ?_
    rw [rdL_nat (by omega)]
    rw [List.take_succ_eq_append_getElem (by rw [List.length_set]; omega), List.take_succ_eq_append_getElem (by rw [List.length_map]; omega), List.take_set_of_le (by omega), ht, List.getElem_set_self, List.getElem_map]
    rfl
theorem toDiagonalS_eq {l : List S35} {k : Nat} (hl : l.length ≤ 1048576) (hk : l.length < k) : laws_toDiagonalS.f k l = some (l.map cvD) := by
  unfold laws_toDiagonalS.f
  rw [if_pos (by omega), if_pos (by omega), Int.toNat_natCast]
  exact toDiagonalS_l0 l (by omega) l.length k 0 _ (by omega) hk (by simp) (by simp)
theorem szDiagonalS_eq {l : List S35} (hl : l.length ≤ 9223372036854775807) : laws_szDiagonalS.f l 1048576 = if (l.length : Int) > 1048576 then some (-1) else some (1048576 - (l.length : Int)) := by
  unfold laws_szDiagonalS.f
  rw [w64 (by omega) (by omega)]
  by_cases h : (l.length : Int) > 1048576
  · rw [if_pos h, if_pos (by omega)]
  · rw [if_neg h, if_neg (by omega)]

theorem l1In_eq (a b c : Int) : spec_l1In.f a b c = some (decide (b ≤ a ∧ a ≤ c)) := by
  unfold spec_l1In.f
  split <;> simp <;> omega

theorem num12 {n : Int} (h : 0 ≤ n ∧ n < 100) {k : Nat} (hk : 5 ≤ k) : spec_l1Num.f k n = some (decS n.toNat) ∧ strconv_Itoa.f n = some (decS n.toNat) ∧ (decS n.toNat).size ≤ 2 := by
  obtain ⟨m, rfl⟩ : ∃ m : Nat, n = m := ⟨n.toNat, by omega⟩
  rw [Int.toNat_natCast]
  refine ⟨l1Num_eq 1 m k (by omega) (by omega) (by omega) (by omega), ?_, ?_⟩
  · unfold strconv_Itoa.f
    rw [if_pos (by omega), Int.toNat_natCast]
    rfl
  · rw [size_decS]
    exact decS_len 1 m (by omega)
def okL (e : S33) : Bool := decide (0 ≤ e.f0 ∧ e.f0 < e.f1 ∧ e.f1 ≤ 11)
theorem listed_l0 (l : List S33) (hl : l.length ≤ 100) : ∀ (d k i : Nat), i + d = l.length → d < k → spec_poListed.l0 k l (l.length : Int) (i : Int) = some ((l.drop i).all okL) := by
  intro d
  induction d with
  | zero =>
    intro k i hi hk
    obtain ⟨k, rfl, _⟩ := fuel hk
    simp only [spec_poListed.l0]
    rw [if_neg (by omega), List.drop_of_length_le (by omega)]
    rfl
  | succ d ih =>
    intro k i hi hk
    obtain ⟨k, rfl, hk⟩ := fuel hk
    simp only [spec_poListed.l0]
    rw [if_pos (by omega), if_pos (by omega), if_pos (by omega), l1In_eq, Option.bind_some, l1In_eq, Option.bind_some, wsucc (n := l.length) (by omega) (by omega), ih k (i + 1) (by omega) (by omega), rdT_drop (l := l) (i := i) (by omega), List.all_cons]
    unfold okL
    by_cases h1 : 1 ≤ (rd_T33 l (i : Int)).f1 ∧ (rd_T33 l (i : Int)).f1 ≤ 11
    · rw [decide_eq_true h1, if_pos rfl, w64 (by omega) (by omega)]
      by_cases h2 : 0 ≤ (rd_T33 l (i : Int)).f0 ∧ (rd_T33 l (i : Int)).f0 ≤ (rd_T33 l (i : Int)).f1 - 1
      · rw [decide_eq_true h2, if_pos rfl, decide_eq_true (show 0 ≤ (rd_T33 l (i : Int)).f0 ∧ (rd_T33 l (i : Int)).f0 < (rd_T33 l (i : Int)).f1 ∧ (rd_T33 l (i : Int)).f1 ≤ 11 by omega), Bool.true_and]
      · rw [decide_eq_false h2, if_neg (by decide), decide_eq_false (show ¬ (0 ≤ (rd_T33 l (i : Int)).f0 ∧ (rd_T33 l (i : Int)).f0 < (rd_T33 l (i : Int)).f1 ∧ (rd_T33 l (i : Int)).f1 ≤ 11) by omega), Bool.false_and]
    · rw [decide_eq_false h1, if_neg (by decide), decide_eq_false (show ¬ (0 ≤ (rd_T33 l (i : Int)).f0 ∧ (rd_T33 l (i : Int)).f0 < (rd_T33 l (i : Int)).f1 ∧ (rd_T33 l (i : Int)).f1 ≤ 11) by omega), Bool.false_and]
theorem idxL_l0 (l : List S33) (hl : l.length ≤ 100) : ∀ (d k i : Nat), i + d = l.length → d < k → ∃ j : Int, impl_Diagonal__at_impl_isListed_1_21.l0 k l (l.length : Int) (i : Int) = some j ∧ decide (j ≥ 0) = !((l.drop i).all okL) := by
  intro d
  induction d with
  | zero =>
    intro k i hi hk
    obtain ⟨k, rfl, _⟩ := fuel hk
    simp only [impl_Diagonal__at_impl_isListed_1_21.l0]
    rw [if_neg (by omega), List.drop_of_length_le (by omega)]
    exact ⟨-1, rfl, rfl⟩
  | succ d ih =>
    intro k i hi hk
    obtain ⟨k, rfl, hk⟩ := fuel hk
    have e : impl_isListed_1.f (rd_T33 l (i : Int)).f0 (rd_T33 l (i : Int)).f1 = some (!(okL (rd_T33 l (i : Int)))) := by
      unfold impl_isListed_1.f okL
      split
      · rw [decide_eq_false (by omega)]; rfl
      · split
        · rw [decide_eq_false (by omega)]; rfl
        · by_cases h : (rd_T33 l (i : Int)).f0 ≥ (rd_T33 l (i : Int)).f1
          · rw [decide_eq_true h, decide_eq_false (by omega)]; rfl
          · rw [decide_eq_false h, decide_eq_true (by omega)]; rfl
    simp only [impl_Diagonal__at_impl_isListed_1_21.l0]
    rw [if_pos (by omega), if_pos (by omega), if_pos (by omega), e, Option.bind_some, wsucc (n := l.length) (by omega) (by omega), rdT_drop (l := l) (i := i) (by omega), List.all_cons]
    cases okL (rd_T33 l (i : Int)) with
    | true =>
      rw [Bool.not_true, if_neg (by decide), Bool.true_and]
      exact ih k (i + 1) (by omega) (by omega)
    | false =>
      rw [Bool.not_false, if_pos rfl, Bool.false_and]
      exact ⟨_, rfl, decide_eq_true (by omega)⟩
def listedB (l : List S33) : Bool := decide (l.length ≤ 12) && l.all okL
theorem specListed_eq (l : List S33) {k : Nat} (hk : 20 ≤ k) : spec_poListed.f k l = some (listedB l) := by
  unfold spec_poListed.f listedB
  by_cases h : l.length ≤ 12
  · have := listed_l0 l (by omega) l.length k 0 (by omega) (by omega)
    rw [Int.natCast_zero, List.drop_zero] at this
    rw [if_neg (by omega), this, decide_eq_true h, Bool.true_and]
  · rw [if_pos (by omega), decide_eq_false h, Bool.false_and]
theorem implListed_eq (l : List S33) {k : Nat} (hk : 20 ≤ k) : impl_isListed.f k l = some (listedB l) := by
  unfold impl_isListed.f listedB impl_Diagonal__at_impl_isListed_1_17.f impl_Diagonal__at_impl_isListed_1_21.f
  by_cases h : l.length ≤ 12
  · obtain ⟨j, h1, h2⟩ := idxL_l0 l (by omega) l.length k 0 (by omega) (by omega)
    rw [Int.natCast_zero] at h1
    rw [List.drop_zero] at h2
    rw [if_pos (by omega), h1, Option.bind_some, Option.bind_some, h2, decide_eq_true h, Bool.true_and, Bool.not_not]
  · rw [if_neg (by omega), decide_eq_false h, Bool.false_and]
/-- The text of one diagonal, as bytes. -/
def wordD (e : S33) : List UInt8 := Lib.decDigits e.f0.toNat ++ [45] ++ Lib.decDigits e.f1.toNat
def wordS (e : S33) : ByteArray := ⟨(wordD e).toArray⟩
theorem wordS_eq (e : S33) : decS e.f0.toNat ++ (⟨#[45]⟩ : ByteArray) ++ decS e.f1.toNat = wordS e := by
  unfold decS wordS wordD
  rw [show (⟨#[45]⟩ : ByteArray) = ⟨[45].toArray⟩ from rfl, ByteArray.mk_append_mk, ByteArray.mk_append_mk]
theorem wordD_len {e : S33} (h : okL e = true) : (wordD e).length ≤ 5 := by
  have h2 := of_decide_eq_true h
  have h3 := decS_len 1 e.f0.toNat (by omega)
  have h4 := decS_len 1 e.f1.toNat (by omega)
  unfold wordD
  rw [List.length_append, List.length_append, List.length_singleton]
  omega
def joined2 (l : List S33) : List UInt8 := Lib.join (l.map wordD) [44]
theorem joined2_snoc : ∀ (l : List S33) (e : S33), l ≠ [] → joined2 (l ++ [e]) = joined2 l ++ [44] ++ wordD e := by
  intro l e hl
  match l, hl with
  | x :: r, _ =>
    unfold joined2
    rw [List.cons_append, List.map_cons, List.map_cons, List.map_append, Lib.join_cons, Lib.join_cons]
    simp [Lib.joinTail]
theorem joined2_len : ∀ (l : List S33), (∀ e ∈ l, okL e = true) → (joined2 l).length ≤ 6 * l.length := by
  intro l
  match l with
  | [] => intro _; simp [joined2, Lib.join_nil]
  | x :: r =>
    intro h
    have hl : ∀ (r : List S33), (∀ e ∈ r, okL e = true) → Lib.lens (r.map wordD) ≤ 5 * r.length := by
      intro r
      induction r with
      | nil => intro _; simp [Lib.lens]
      | cons y r ih =>
        intro h
        have h1 := ih (fun e he => h e (List.mem_cons_of_mem _ he))
        have h2 := wordD_len (h y (List.mem_cons_self ..))
        simp only [Lib.lens, List.map_cons, List.sum_cons, List.length_cons] at h1 ⊢
        omega
    have h3 := hl (x :: r) h
    unfold joined2
    rw [List.map_cons, Lib.join_length, show ([44] : List UInt8).length = 1 from rfl, Nat.one_mul, List.length_map]
    rw [List.map_cons, List.length_cons] at h3
    rw [List.length_cons]
    omega
theorem take_snoc {l : List S33} {i : Nat} (h : i < l.length) : l.take (i + 1) = l.take i ++ [rd_T33 l (i : Int)] := by
  rw [List.take_succ_eq_append_getElem h, rdT_nat h]
theorem specText_l0 (l : List S33) (hl : l.length ≤ 12) (ho : ∀ e ∈ l, okL e = true) : ∀ (d k i : Nat), i + d = l.length → d + 10 < k →
    spec_poText.l0 k ⟨(joined2 (l.take i)).toArray⟩ l (l.length : Int) (i : Int) = some ⟨(joined2 l).toArray⟩ := by
  intro d
  induction d with
  | zero =>
    intro k i hi hk
    obtain ⟨k, rfl, _⟩ := fuel hk
    simp only [spec_poText.l0]
    rw [if_neg (by omega), List.take_of_length_le (by omega)]
  | succ d ih =>
    intro k i hi hk
    obtain ⟨k, rfl⟩ : ∃ m, k = m + 1 := ⟨k - 1, by omega⟩
    have hm : rd_T33 l (i : Int) ∈ l := by rw [rdT_nat (show i < l.length by omega)]; exact List.getElem_mem _
    have h0 := ho _ hm
    have h2 := of_decide_eq_true h0
    obtain ⟨n1, _, n3⟩ := num12 (n := (rd_T33 l (i : Int)).f0) (by omega) (k := k) (by omega)
    obtain ⟨m1, _, m3⟩ := num12 (n := (rd_T33 l (i : Int)).f1) (by omega) (k := k) (by omega)
    have hj := joined2_len (l.take i) (fun e he => ho e (List.mem_of_mem_take he))
    rw [List.length_take] at hj
    have hw := wordD_len h0
    have s1 : (⟨(joined2 (l.take i)).toArray⟩ : ByteArray).size = (joined2 (l.take i)).length := by simp [ByteArray.size]
    have s2 : (wordS (rd_T33 l (i : Int))).size = (wordD (rd_T33 l (i : Int))).length := by simp [wordS, ByteArray.size]
    have s3 : ∀ a : ByteArray, (a ++ (⟨#[44]⟩ : ByteArray)).size = a.size + 1 := fun a => by rw [ByteArray.size_append]; rfl
    have s4 : ∀ a : ByteArray, (a ++ (⟨#[45]⟩ : ByteArray)).size = a.size + 1 := fun a => by rw [ByteArray.size_append]; rfl
    have hih := ih k (i + 1) (by omega) (by omega)
    rw [take_snoc (by omega)] at hih
    simp only [spec_poText.l0]
    rw [if_pos (by omega), if_pos (by omega), if_pos (by omega), n1, m1, wsucc (n := l.length) (by omega) (by omega)]
    simp only [Option.bind_some, wordS_eq]
    have c1 : (decS (rd_T33 l (i : Int)).f0.toNat).size + 1 ≤ 9223372036854775807 := by omega
    have c2 : (decS (rd_T33 l (i : Int)).f0.toNat ++ (⟨#[45]⟩ : ByteArray)).size + (decS (rd_T33 l (i : Int)).f1.toNat).size ≤ 9223372036854775807 := by rw [s4]; omega
    by_cases hz : (i : Int) > 0
    · rw [if_pos hz, if_pos (by rw [s1]; omega), if_pos c1, if_pos c2, if_pos (by rw [s3, s1, s2]; omega)]
      have hne : l.take i ≠ [] := by
        intro e
        have := congrArg List.length e
        rw [List.length_take, List.length_nil] at this
        omega
      rw [joined2_snoc _ _ hne] at hih
      rw [show (⟨#[44]⟩ : ByteArray) = ⟨[44].toArray⟩ from rfl, wordS, ByteArray.mk_append_mk, ByteArray.mk_append_mk]
      exact hih
    · rw [if_neg hz, if_pos c1, if_pos c2, if_pos (by rw [s1, s2]; omega)]
      obtain rfl : i = 0 := by omega
      rw [List.take_zero, show joined2 [] = [] from rfl, wordS, ByteArray.mk_append_mk [] (wordD _), List.nil_append]
      rw [List.take_zero, List.nil_append] at hih
      rw [show joined2 [rd_T33 l ((0 : Nat) : Int)] = wordD (rd_T33 l ((0 : Nat) : Int)) from Lib.join_one _ _] at hih
      exact hih
theorem implText_l0 (l : List S33) (hl : l.length ≤ 12) (hl1 : 0 < l.length) (ho : ∀ e ∈ l, okL e = true) : ∀ (d k i : Nat), i + d = l.length → d + 10 < k →
    impl_diagonalsText.l0 k ((l.take i).map wordS) l (l.length : Int) (i : Int) = some ⟨(joined2 l).toArray⟩ := by
  intro d
  induction d with
  | zero =>
    intro k i hi hk
    obtain ⟨k, rfl, _⟩ := fuel hk
    have hj := joined2_len l ho
    have e : (((l.map wordS).map (·.data.toList)) : List (List UInt8)) = l.map wordD := by rw [List.map_map]; rfl
    simp only [impl_diagonalsText.l0]
    rw [if_neg (by omega), List.take_of_length_le (by omega)]
    unfold strings_Join.f
    rw [e, show (⟨#[44]⟩ : ByteArray).data.toList = [44] from rfl, if_pos ⟨by rw [List.length_map]; omega, by rw [List.length_map]; omega, by show (joined2 l).length ≤ 1000000; omega⟩, Option.bind_some]
    rfl
  | succ d ih =>
    intro k i hi hk
    obtain ⟨k, rfl⟩ : ∃ m, k = m + 1 := ⟨k - 1, by omega⟩
    have hm : rd_T33 l (i : Int) ∈ l := by rw [rdT_nat (show i < l.length by omega)]; exact List.getElem_mem _
    have h0 := ho _ hm
    have h2 := of_decide_eq_true h0
    obtain ⟨_, n2, n3⟩ := num12 (n := (rd_T33 l (i : Int)).f0) (by omega) (k := k) (by omega)
    obtain ⟨_, m2, m3⟩ := num12 (n := (rd_T33 l (i : Int)).f1) (by omega) (k := k) (by omega)
    have s4 : ∀ a : ByteArray, (a ++ (⟨#[45]⟩ : ByteArray)).size = a.size + 1 := fun a => by rw [ByteArray.size_append]; rfl
    have hih := ih k (i + 1) (by omega) (by omega)
    rw [take_snoc (by omega), List.map_append, List.map_cons, List.map_nil] at hih
    simp only [impl_diagonalsText.l0]
    rw [if_pos (by omega), if_pos (by omega), if_pos (by omega), n2, m2, Option.bind_some, wsucc (n := l.length) (by omega) (by omega), if_pos (by omega), Option.bind_some, if_pos (by rw [s4]; omega), if_pos (by rw [List.length_map, List.length_take]; omega), wordS_eq]
    exact hih
theorem res (l : List S33) : ∃ q b, ∀ k, 100 ≤ k → spec_DiagonalsText.f k l = some (q, b) ∧ impl_DiagonalsText.f k l = some (q, b) := by
  cases h : listedB l with
  | false =>
    refine ⟨⟨#[]⟩, false, fun k hk => ?_⟩
    unfold spec_DiagonalsText.f impl_DiagonalsText.f
    rw [specListed_eq l (by omega), implListed_eq l (by omega), h]
    exact ⟨rfl, rfl⟩
  | true =>
    have h1 := h
    unfold listedB at h1
    rw [Bool.and_eq_true, decide_eq_true_iff, List.all_eq_true] at h1
    by_cases hz : l.length = 0
    · refine ⟨⟨#[46]⟩, true, fun k hk => ?_⟩
      unfold spec_DiagonalsText.f impl_DiagonalsText.f spec_poText.f impl_diagonalsText.f
      rw [specListed_eq l (by omega), implListed_eq l (by omega), h, if_pos (by omega), if_pos (by omega)]
      exact ⟨rfl, rfl⟩
    · refine ⟨⟨(joined2 l).toArray⟩, true, fun k hk => ?_⟩
      unfold spec_DiagonalsText.f impl_DiagonalsText.f spec_poText.f impl_diagonalsText.f
      have g1 := specText_l0 l h1.1 h1.2 l.length k 0 (by omega) (by omega)
      have g2 := implText_l0 l h1.1 (by omega) h1.2 l.length k 0 (by omega) (by omega)
      rw [List.take_zero, Int.natCast_zero] at g1 g2
      rw [specListed_eq l (by omega), implListed_eq l (by omega), h, if_neg (by omega), if_neg (by omega)]
      have g3 : spec_poText.l0 k (⟨#[]⟩ : ByteArray) l (l.length : Int) 0 = some ⟨(joined2 l).toArray⟩ := g1
      have g4 : impl_diagonalsText.l0 k ([] : List ByteArray) l (l.length : Int) 0 = some ⟨(joined2 l).toArray⟩ := g2
      rw [Option.bind_some, Option.bind_some, if_pos rfl, if_pos rfl, g3, g4]
      exact ⟨rfl, rfl⟩
theorem FnExactDiagonalsText : laws_FnExactDiagonalsText.Pure := by
  intro l hl _
  refine ⟨l.length + 300, ?_⟩
  unfold laws_FnExactDiagonalsText.f
  rw [szDiagonalS_eq hl]
  by_cases h : (l.length : Int) > 1048576
  · rw [if_pos h, Option.bind_some, if_pos (by omega)]
  · rw [if_neg h, Option.bind_some, if_neg (by omega)]
    have hm : (l.map cvD).length = l.length := List.length_map ..
    obtain ⟨q, b, hr⟩ := res (l.map cvD)
    have hT : ∀ k, l.length < k → laws_toDiagonalS.f k l = some (l.map cvD) := fun k hk => toDiagonalS_eq (by omega) hk
    have hS : spec_DiagonalsText.f (l.length + 300) (l.map cvD) = some (q, b) := (hr _ (by omega)).1
    have hI : ∀ k, 250 ≤ k → impl_DiagonalsText.f k (l.map cvD) = some (q, b) := fun k hk => (hr _ (by omega)).2
    have hE : ∀ k, l.length < k → laws_eqDiagonalS.f k (l.map cvD) (l.map cvD) = some true := fun k hk => eqDiagonalS_self (by omega) (by omega)
    repeat (first | dsimp only | rw [Option.bind_some] | rw [if_pos rfl] | rw [bne_self_eq_false] | rw [if_neg Bool.false_ne_true] | rw [hT _ (by omega)] | rw [hS] | rw [hI _ (by omega)] | rw [hE _ (by omega)] | (simp only [laws_FnExactDiagonalsText.j0]))

end Go.Proofs.YtmpmmhmnjdkgcabDoor.Pure
