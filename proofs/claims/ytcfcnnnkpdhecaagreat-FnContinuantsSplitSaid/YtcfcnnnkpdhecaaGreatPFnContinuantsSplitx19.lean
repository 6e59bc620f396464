-- Written for this claim by a program of this session (wip/tools/xprint.py over the kit's printer, wip/tools/shrink.py).
import Derived.Test.YtcfcnnnkpdhecaaGreatPFnContinuantsSplitx0
import Derived.Test.YtcfcnnnkpdhecaaGreatPFnContinuantsSplitx1
import Derived.Test.YtcfcnnnkpdhecaaGreatPFnContinuantsSplitx2
import Derived.Test.YtcfcnnnkpdhecaaGreatPFnContinuantsSplitx3
import Derived.Test.YtcfcnnnkpdhecaaGreatPFnContinuantsSplitx4
import Derived.Test.YtcfcnnnkpdhecaaGreatPFnContinuantsSplitx7
import Derived.Test.YtcfcnnnkpdhecaaGreatPFnContinuantsSplitx8
import Derived.Test.YtcfcnnnkpdhecaaGreatPFnContinuantsSplitx9
import Derived.Test.YtcfcnnnkpdhecaaGreatPFnContinuantsSplitx10
import Derived.Test.YtcfcnnnkpdhecaaGreatPFnContinuantsSplitx17
import Derived.Test.YtcfcnnnkpdhecaaGreatPFnContinuantsSplitx18
namespace Go.Proofs.YtcfcnnnkpdhecaaGreat.PFnContinuantsSplit
open Go.RowKit Go.Proofs.YtcfcnnnkpdhecaaGreatW.PrintWords Go.Proofs.YtcfcnnnkpdhecaaGreatW.PrintLast Go.Proofs.YtcfcnnnkpdhecaaGreatW.PrintMore
attribute [local go_sem] max2_int min2_int max_two min_two max_three min_three max_four min_four   -- for this text's walks alone
set_option linter.unusedVariables false
set_option linter.unusedSimpArgs false
def laws_FnContinuantsSplit.row (xs : List (List Int)) (i : Int) : List Int := xs.getD i.toNat []
theorem laws_FnContinuantsSplit.at_row {w : World} {A : Option Addr} {n : Nat} {xs : List (List Int)} (h : Kd.C (Kd.slice 3 (Kd.int .i64)) w A n xs) (i : Int) (h0 : 0 ≤ i) (h1 : i < n) : ∃ ad A0 c0, A = some ad ∧ w.cell? (ad.add i.toNat) = some (.slice A0 (laws_FnContinuantsSplit.row xs i).length c0) ∧ (laws_FnContinuantsSplit.row xs i).length ≤ c0 ∧ (Kd.int .i64).C w A0 (laws_FnContinuantsSplit.row xs i).length (laws_FnContinuantsSplit.row xs i) := by
 obtain ⟨ad, c, e, _, hK, hc0⟩ := Kd.C_get h ([] : List Int) i h0 h1; have hc : ∀ j u, c[j]? = some u → w.cell? (ad.add (i.toNat * 1 + j)) = some u := hc0; obtain ⟨A0, c0, rfl, l0, g0⟩ := hK; exact ⟨ad, A0, c0, e, by have hq := hc 0 _ rfl; rwa [Nat.mul_one, Nat.add_zero] at hq, l0, g0⟩
def laws_FnContinuantsSplit.Stb (w : World) (P : World → Prop) : Prop := ∀ W, Below w.heap.size w W → P W
theorem laws_FnContinuantsSplit.Stb.mv {w w1 : World} {P : World → Prop} (h : laws_FnContinuantsSplit.Stb w P) (hb : Below w.heap.size w w1) : laws_FnContinuantsSplit.Stb w1 P := fun W hW => h W (below_step hb hW)
theorem laws_FnContinuantsSplit.Stb.add {w w1 : World} {P : World → Prop} (h : laws_FnContinuantsSplit.Stb w P) (hb : Below w.heap.size w w1) {α : Type} {d : Kd α} {A : Option Addr} {n : Nat} {xs : List α} (hc : Kd.C d w1 A n xs) : laws_FnContinuantsSplit.Stb w1 (fun W => Kd.C d W A n xs ∧ P W) := fun W hW => ⟨Kd.C_below hc hW, h W (below_step hb hW)⟩
theorem laws_FnContinuantsSplit.Stb.now {w : World} {P : World → Prop} (h : laws_FnContinuantsSplit.Stb w P) : P w := h w (Below.refl _ _)
def laws_FnContinuantsSplit.okB (k : Nat) (l parts : List Int) (value : Int) (table : List (List Int)) (num den : Int) (seven : Bool) : Prop :=
 (∃ back cnt, laws_dBack.f k l = some back ∧ impl_ContinuantOf.f k back = some (value, true) ∧ impl_CountTerms.f k (l.length : Int) = some (cnt, true) ∧ (parts.length : Int) = cnt) ∧ laws_dSum.f k parts = some value ∧ table.length = l.length ∧ l.length ≤ 1000 ∧
 (∀ i : Nat, i < l.length → (laws_FnContinuantsSplit.row table i).length = l.length - i ∧ rd (laws_FnContinuantsSplit.row table i) 0 = rd l i ∧ (i = 0 → rd (laws_FnContinuantsSplit.row table i) ((l.length : Int) - 1) = value) ∧
  ∀ j : Nat, 1 ≤ j → j < (laws_FnContinuantsSplit.row table i).length → wrap64 (wrap64 (rd (laws_FnContinuantsSplit.row table i) ((j : Int) - 1) * rd (laws_FnContinuantsSplit.row table ((i : Int) + 1)) ((j : Int) - 1)) - wrap64 (rd (laws_FnContinuantsSplit.row table i) (j : Int) * (if j = 1 then 1 else rd (laws_FnContinuantsSplit.row table ((i : Int) + 1)) ((j : Int) - 2)))) = 1) ∧
 (∀ t : Nat, 1 ≤ t → t < l.length → ∃ p0 p1 p2 p3 : Int, impl_SplitContinuant.f k l (t : Int) = some ([p0, p1, p2, p3], true) ∧ wrap64 (wrap64 (p0 * p1) - wrap64 (p2 * p3)) = value) ∧
 (seven = true → ∃ rest, impl_ContinuantOf.f k (l.drop 1) = some (rest, true) ∧ 1 ≤ l.length ∧ 1 ≤ den ∧ wrap64 (num * rest) = wrap64 (den * value) ∧ (num = value ∨ (num ≠ value ∧ num = wrap64 (-value))) ∧ (den = rest ∨ (den ≠ rest ∧ den = wrap64 (-rest))))
def laws_FnContinuantsSplit.part1 (k : Nat) (l : List Int) : Prop :=
 ∃ (parts : List Int) (ok : Bool) (value plus : Int) (table : List (List Int)) (num den : Int) (seven : Bool), impl_TermsOf.f k l = some (parts, ok) ∧ spec_TermsOf.f k l = some (parts, ok) ∧ impl_ContinuantOf.f k l = some (value, ok) ∧ spec_ContinuantOf.f k l = some (value, ok) ∧
 impl_PlusContinuantOf.f k l = some (plus, ok) ∧ spec_PlusContinuantOf.f k l = some (plus, ok) ∧ impl_ContinuantTable.f k l = some (table, ok) ∧ spec_ContinuantTable.f k l = some (table, ok) ∧ impl_FractionOfMinus.f k l = some (num, den, seven) ∧ spec_FractionOfMinus.f k l = some (num, den, seven) ∧
 laws_dSame.f k parts parts = some true ∧ laws_dLists.f k table table = some true ∧ impl_IsTermList.f k l = some ok ∧ spec_IsTermList.f k l = some ok ∧ (seven = true → ok = true ∧ 0 < l.length) ∧ (ok = true → laws_FnContinuantsSplit.okB k l parts value table num den seven)
def laws_FnContinuantsSplit.part2 (k : Nat) (l1 : List Int) : Prop :=
 ∃ (s : List Int) (t : Int) (p : List Int) (ok9 : Bool) (n2 cnt : Int) (ok11 : Bool) (q : List Int) (ii jj entry : Int) (ok13 : Bool), spec_DrawSplitContinuant.f k l1 = some (s, t) ∧ impl_SplitContinuant.f k s t = some (p, ok9) ∧ spec_SplitContinuant.f k s t = some (p, ok9) ∧ laws_dSame.f k p p = some true ∧
 spec_DrawCountTerms.f l1 = some n2 ∧ impl_CountTerms.f k n2 = some (cnt, ok11) ∧ spec_CountTerms.f k n2 = some (cnt, ok11) ∧ spec_DrawEntryByContinuant.f k l1 = some (q, ii, jj) ∧ impl_EntryByContinuant.f k q ii jj = some (entry, ok13) ∧ spec_EntryByContinuant.f k q ii jj = some (entry, ok13) ∧ (ok13 = true → impl_EntryOf.f k q ii jj = some (entry, true))
def laws_FnContinuantsSplit.f (k : Nat) (l0 l1 : List Int) : Prop := laws_big.f l0 l1 = some true ∨ (laws_big.f l0 l1 = some false ∧ (∃ l, spec_DrawTermsOf.f k l0 = some l ∧ laws_FnContinuantsSplit.part1 k l) ∧ laws_FnContinuantsSplit.part2 k l1)
theorem laws_FnContinuantsSplit.a4 {i L : Nat} (c : i < L) (h : L ≤ 100000) : wrap64 ((i : Int) + 1) = (i : Int) + 1 := by simp only [wrap64]; omega
theorem laws_FnContinuantsSplit.a0 {i L : Nat} (c : ¬ i < L) : decide ((i : Int) < (L : Int)) = false := decide_eq_false (by omega)
theorem laws_FnContinuantsSplit.a1 {gk i L : Nat} (h : i ≤ L ∧ gk + i = L + 1) (c : i < L) : gk - 1 < gk ∧ i + 1 ≤ L ∧ gk - 1 + (i + 1) = L + 1 := by omega
theorem laws_FnContinuantsSplit.a2 (i : Nat) : ((i + 1 : Nat) : Int) = (i : Int) + 1 := by omega
theorem laws_FnContinuantsSplit.a3 {i L : Nat} (c : i < L) : 0 ≤ (i : Int) ∧ (i : Int) < (L : Int) ∧ decide ((i : Int) < (L : Int)) = true := ⟨by omega, by omega, decide_eq_true (by omega)⟩
theorem laws_FnContinuantsSplit.ne_ {a : Int} {b : Int} (h : a = b) : (a != b) = false := by rw [h, bne_self_eq_false]
theorem laws_FnContinuantsSplit.nn_ {a b : Nat} (h : a = b) : ((a : Int) != (b : Int)) = false := by rw [h, bne_self_eq_false]
theorem laws_FnContinuantsSplit.r1 {i L n : Nat} (hn : n ≤ 1000) (h : L = n - i) (c : i < n) : wrap64 ((n : Int) - (i : Int)) = (L : Int) ∧ 0 < (L : Int) ∧ (0 : Int) < (L : Int) ∧ wrap64 ((i : Int) + 1) = (i : Int) + 1 := ⟨by simp only [wrap64]; omega, by omega, by omega, by simp only [wrap64]; omega⟩
theorem laws_FnContinuantsSplit.r2 {n : Nat} (hn : n ≤ 1000) (c : 0 < n) : wrap64 ((n : Int) - 1) = (n : Int) - 1 ∧ 0 ≤ (n : Int) - 1 ∧ (n : Int) - 1 < (n : Int) ∧ ((n : Int) - 1).toNat = n - 1 := ⟨by simp only [wrap64]; omega, by omega, by omega, by omega⟩
theorem laws_FnContinuantsSplit.r3 {i : Nat} (h : i ≠ 0) : ((i : Int) == 0) = false := by rw [beq_eq_false_iff_ne]; omega
theorem laws_FnContinuantsSplit.j1 {j L : Nat} (c1 : 1 ≤ j) (c : j < L) (h : L ≤ 1000) : wrap64 ((j : Int) - 1) = (j : Int) - 1 ∧ 0 ≤ (j : Int) - 1 ∧ (j : Int) - 1 < (L : Int) ∧ wrap64 ((j : Int) + 1) = (j : Int) + 1 ∧ ((j : Int) - 1).toNat = j - 1 := ⟨by simp only [wrap64]; omega, by omega, by omega, by simp only [wrap64]; omega, by omega⟩
theorem laws_FnContinuantsSplit.j2 {j M : Nat} (c1 : 1 ≤ j) (c : j < M + 1) : (j : Int) - 1 < (M : Int) := by omega
theorem laws_FnContinuantsSplit.j3 {j M : Nat} (c1 : 1 < j) (c : j < M + 1) (h : M ≤ 1000) : wrap64 ((j : Int) - 2) = (j : Int) - 2 ∧ 0 ≤ (j : Int) - 2 ∧ (j : Int) - 2 < (M : Int) ∧ decide (1 < (j : Int)) = true ∧ ((j : Int) - 2).toNat = j - 2 := ⟨by simp only [wrap64]; omega, by omega, by omega, decide_eq_true (by omega), by omega⟩
theorem laws_FnContinuantsSplit.i1 {i n : Nat} (c : i + 1 < n) : decide ((i : Int) + 1 < (n : Int)) = true ∧ 0 ≤ (i : Int) + 1 ∧ (i : Int) + 1 < (n : Int) ∧ ((i : Int) + 1).toNat = i + 1 := ⟨decide_eq_true (by omega), by omega, by omega, by omega⟩
theorem laws_FnContinuantsSplit.i0 {i n : Nat} (c : ¬ i + 1 < n) : decide ((i : Int) + 1 < (n : Int)) = false := decide_eq_false (by omega)
theorem laws_FnContinuantsSplit.g1 {gk j L : Nat} (h : 1 ≤ j ∧ j ≤ L ∧ gk + j = L + 2) (c : j < L) : gk - 1 < gk ∧ 1 ≤ j + 1 ∧ j + 1 ≤ L ∧ gk - 1 + (j + 1) = L + 2 := by omega
theorem laws_FnContinuantsSplit.q1 {R N : Nat} (h : R = N + 1) (h2 : R ≤ 1000) : N ≤ 1000 := by omega
theorem laws_FnContinuantsSplit.q2 {j : Nat} (h : j = 1) : decide (1 < (j : Int)) = false := decide_eq_false (by omega)
theorem laws_FnContinuantsSplit.q3 {R N n i : Nat} (h : R = n - i) (h2 : N = n - (i + 1)) (h3 : i + 1 < n) : R = N + 1 := by omega
theorem laws_FnContinuantsSplit.h1 {gk t L : Nat} (h : 1 ≤ t ∧ gk + t = L + 2) (c : t < L) : gk - 1 < gk ∧ 1 ≤ t + 1 ∧ gk - 1 + (t + 1) = L + 2 := by omega
set_option maxHeartbeats 80000000 in
set_option maxRecDepth 100000 in
def laws_FnContinuantsSplit.m0 : (G_p1 : Prop) ×' (G_p1 → ∀ (k : Nat) (A_c : Option Addr) (c_c : Nat) (l0 : List Int) (A_m : Option Addr) (c_m : Nat) (l1 : List Int) (r : Bool) (w : World) (hr0 : Kd.C (Kd.int .u8) w A_c l0.length l0) (hc0 : l0.length ≤ c_c) (hr1 : Kd.C (Kd.int .u8) w A_m l1.length l1) (hc1 : l1.length ≤ c_m) (h : laws_FnContinuantsSplit.f k l0 l1),
  Calls Tryz.prog 3 #[.slice A_c l0.length c_c, .slice A_m l1.length c_m] w fun e w' => e = .returned (.bool true) ∧ Below w.heap.size w w') := by
 apply PSigma.mk
 focus
  intro HG_p1; replace HG_p1 := Aside0.mk HG_p1; intro k A_c c_c l0 A_m c_m l1 r w hr0 hc0 hr1 hc1 h; have HM0 := Aside0.mk (show laws_FnContinuantsSplit.Stb w (fun W => Kd.C (Kd.int .u8) W A_m l1.length l1 ∧ Kd.C (Kd.int .u8) W A_c l0.length l0 ∧ True) from fun W hW => ⟨Kd.C_below hr1 hW, Kd.C_below hr0 hW, trivial⟩)
  have HB0 := Aside0.mk (Below.refl w.heap.size w); have HL_c := Aside0.mk hc0; have HL_m := Aside0.mk hc1; clear hr0 hr1 hc0 hc1
  rcases h with hbig | ⟨hbig, ⟨l, hd, hp1⟩, s, t, p, ok9, n2, cnt, ok11, q, ii, jj, entry, ok13, y1, y2, y3, y4, y5, y6, y7, y8, y9, y10, y11⟩
  ·have HZ := Aside0.mk hbig
   clear hbig
   go_enter Tryz.func3, Tryz.ntmps3
   have HCON := Aside0.mk (laws_big.calls A_c c_c l0 A_m c_m l1 true w (HM0.out.now.2.1) HL_c.out (HM0.out.now.1) HL_m.out HZ.out)
   go_wp2_with (go_at_call 4; (with_reducible refine HCON.out.mono ?_); rintro e w1 ⟨rfl, hd⟩; have hb := Lw.below_of hd; clear hd; have HM1 := Aside0.mk (HM0.out.mv hb); have HB1 := Aside0.mk (below_step HB0.out hb); clear hb)
   clear HCON HM0 HB0
   go_ret
   exact ⟨rfl, HB1.out⟩
  ·have HZ := Aside0.mk hbig
   have HD := Aside0.mk hd; obtain ⟨parts, ok, value, plus, table, num, den, seven, z1, z2, z3, z4, z5, z6, z7, z8, z9, z10, z11, z12, z13, z14, z15, zok⟩ := hp1; have Z1 := Aside0.mk z1; have Z2 := Aside0.mk z2; have Z3 := Aside0.mk z3; have Z4 := Aside0.mk z4; have Z5 := Aside0.mk z5; have Z6 := Aside0.mk z6; have Z7 := Aside0.mk z7; have Z8 := Aside0.mk z8; have Z9 := Aside0.mk z9; have Z10 := Aside0.mk z10; have Z11 := Aside0.mk z11; have Z12 := Aside0.mk z12; have Z13 := Aside0.mk z13; have Z14 := Aside0.mk z14; have Z15 := Aside0.mk z15; have Y1 := Aside0.mk y1; have Y2 := Aside0.mk y2; have Y3 := Aside0.mk y3; have Y4 := Aside0.mk y4; have Y5 := Aside0.mk y5; have Y6 := Aside0.mk y6; have Y7 := Aside0.mk y7; have Y8 := Aside0.mk y8; have Y9 := Aside0.mk y9; have Y10 := Aside0.mk y10; have Y11 := Aside0.mk y11; have ZK := Aside0.mk zok; clear hbig hd z1 z2 z3 z4 z5 z6 z7 z8 z9 z10 z11 z12 z13 z14 z15 y1 y2 y3 y4 y5 y6 y7 y8 y9 y10 y11 zok
   go_enter Tryz.func3, Tryz.ntmps3
   have HCON := Aside0.mk (laws_big.calls A_c c_c l0 A_m c_m l1 false w (HM0.out.now.2.1) HL_c.out (HM0.out.now.1) HL_m.out HZ.out)
   go_wp2_with (go_at_call 4; (with_reducible refine HCON.out.mono ?_); rintro e w2 ⟨rfl, hd⟩; have hb := Lw.below_of hd; clear hd; have HM2 := Aside0.mk (HM0.out.mv hb); have HB2 := Aside0.mk (below_step HB0.out hb); clear hb)
   clear HCON HM0 HB0; have HCON := Aside0.mk (spec_DrawTermsOf.calls k A_c c_c l0 l w2 (HM2.out.now.2.1) HL_c.out HD.out)
   go_wp2_with (go_at_call 5; (with_reducible refine HCON.out.mono ?_); rintro e w3 ⟨v_, rfl, ho, hb⟩; obtain ⟨A_l, c_l, e_, hl_l, hc_⟩ := Kd.R_reads ho; subst e_; have HM3 := Aside0.mk (HM2.out.add hb hc_); have HL_l := Aside0.mk hl_l; clear ho hc_ hl_l; have HB3 := Aside0.mk (below_step HB2.out hb); clear hb)
   clear HCON HM2 HB2; have HCON := Aside0.mk (impl_TermsOf.calls k A_l c_l l parts ok w3 (HM3.out.now.1) HL_l.out Z1.out)
   go_wp2_with (go_at_call 6; (with_reducible refine HCON.out.mono ?_); rintro e w4 ⟨v_, rfl, ho, hb⟩; obtain ⟨A_pa, c_pa, e_, hl_pa, hc_⟩ := Kd.R_reads ho; subst e_; have HM4 := Aside0.mk (HM3.out.add hb hc_); have HL_pa := Aside0.mk hl_pa; clear ho hc_ hl_pa; have HB4 := Aside0.mk (below_step HB3.out hb); clear hb)
   clear HCON HM3 HB3; have HCON := Aside0.mk (spec_TermsOf.calls k A_l c_l l parts ok w4 (HM4.out.now.2.1) HL_l.out Z2.out)
   go_wp2_with (go_at_call 7; (with_reducible refine HCON.out.mono ?_); rintro e w5 ⟨v_, rfl, ho, hb⟩; obtain ⟨A_pa2, c_pa2, e_, hl_pa2, hc_⟩ := Kd.R_reads ho; subst e_; have HM5 := Aside0.mk (HM4.out.add hb hc_); have HL_pa2 := Aside0.mk hl_pa2; clear ho hc_ hl_pa2; have HB5 := Aside0.mk (below_step HB4.out hb); clear hb)
   clear HCON HM4 HB4; have HCON := Aside0.mk (impl_ContinuantOf.calls k A_l c_l l value ok w5 (HM5.out.now.2.2.1) HL_l.out Z3.out)
   go_wp2_with (go_at_call 8; (with_reducible refine HCON.out.mono ?_); rintro e w6 ⟨rfl, hd⟩; have hb := Lw.below_of hd; clear hd; have HM6 := Aside0.mk (HM5.out.mv hb); have HB6 := Aside0.mk (below_step HB5.out hb); clear hb)
   clear HCON HM5 HB5; have HCON := Aside0.mk (spec_ContinuantOf.calls k A_l c_l l value ok w6 (HM6.out.now.2.2.1) HL_l.out Z4.out)
   go_wp2_with (go_at_call 9; (with_reducible refine HCON.out.mono ?_); rintro e w7 ⟨rfl, hd⟩; have hb := Lw.below_of hd; clear hd; have HM7 := Aside0.mk (HM6.out.mv hb); have HB7 := Aside0.mk (below_step HB6.out hb); clear hb)
   clear HCON HM6 HB6; have HCON := Aside0.mk (impl_PlusContinuantOf.calls k A_l c_l l plus ok w7 (HM7.out.now.2.2.1) HL_l.out Z5.out)
   go_wp2_with (go_at_call 10; (with_reducible refine HCON.out.mono ?_); rintro e w8 ⟨rfl, hd⟩; have hb := Lw.below_of hd; clear hd; have HM8 := Aside0.mk (HM7.out.mv hb); have HB8 := Aside0.mk (below_step HB7.out hb); clear hb)
   clear HCON HM7 HB7; have HCON := Aside0.mk (spec_PlusContinuantOf.calls k A_l c_l l plus ok w8 (HM8.out.now.2.2.1) HL_l.out Z6.out)
   go_wp2_with (go_at_call 11; (with_reducible refine HCON.out.mono ?_); rintro e w9 ⟨rfl, hd⟩; have hb := Lw.below_of hd; clear hd; have HM9 := Aside0.mk (HM8.out.mv hb); have HB9 := Aside0.mk (below_step HB8.out hb); clear hb)
   clear HCON HM8 HB8; have HCON := Aside0.mk (impl_ContinuantTable.calls k A_l c_l l table ok w9 (HM9.out.now.2.2.1) HL_l.out Z7.out)
   go_wp2_with (go_at_call 12; (with_reducible refine HCON.out.mono ?_); rintro e w10 ⟨v_, rfl, ho, hb⟩; obtain ⟨A_tb, c_tb, e_, hl_tb, hc_⟩ := Kd.S_reads ho; subst e_; have HM10 := Aside0.mk (HM9.out.add hb hc_); have HL_tb := Aside0.mk hl_tb; clear ho hc_ hl_tb; have HB10 := Aside0.mk (below_step HB9.out hb); clear hb)
   clear HCON HM9 HB9; have HCON := Aside0.mk (spec_ContinuantTable.calls k A_l c_l l table ok w10 (HM10.out.now.2.2.2.1) HL_l.out Z8.out)
   go_wp2_with (go_at_call 13; (with_reducible refine HCON.out.mono ?_); rintro e w11 ⟨v_, rfl, ho, hb⟩; obtain ⟨A_tb2, c_tb2, e_, hl_tb2, hc_⟩ := Kd.S_reads ho; subst e_; have HM11 := Aside0.mk (HM10.out.add hb hc_); have HL_tb2 := Aside0.mk hl_tb2; clear ho hc_ hl_tb2; have HB11 := Aside0.mk (below_step HB10.out hb); clear hb)
   clear HCON HM10 HB10; have HCON := Aside0.mk (impl_FractionOfMinus.calls k A_l c_l l num den seven w11 (HM11.out.now.2.2.2.2.1) HL_l.out Z9.out)
   go_wp2_with (go_at_call 14; (with_reducible refine HCON.out.mono ?_); rintro e w12 ⟨rfl, hb⟩; have HM12 := Aside0.mk (HM11.out.mv hb); have HB12 := Aside0.mk (below_step HB11.out hb); clear hb)
   clear HCON HM11 HB11; have HCON := Aside0.mk (spec_FractionOfMinus.calls k A_l c_l l num den seven w12 (HM12.out.now.2.2.2.2.1) HL_l.out Z10.out)
   go_upto_region 14 with (go_at_call 15; (with_reducible refine HCON.out.mono ?_); rintro e w13 ⟨rfl, hd⟩; have hb := Lw.below_of hd; clear hd; have HM13 := Aside0.mk (HM12.out.mv hb); have HB13 := Aside0.mk (below_step HB12.out hb); clear hb)
   clear HCON HM12 HB12
   cases ok with
   | false =>
    cases seven with
    | true => exact absurd (Z15.out rfl).1 (by decide)
    | false =>
     simp only [List.append_eq, List.cons_append, List.nil_append]
     have HCON := Aside0.mk (laws_dSame.calls k A_pa c_pa parts A_pa2 c_pa2 parts true w13 (HM13.out.now.2.2.2.1) HL_pa.out (HM13.out.now.2.2.1) HL_pa2.out Z11.out)
     go_wp2_with (go_at_call 16; (with_reducible refine HCON.out.mono ?_); rintro e w14 ⟨rfl, hd⟩; have hb := Lw.below_of hd; clear hd; have HM14 := Aside0.mk (HM13.out.mv hb); have HB14 := Aside0.mk (below_step HB13.out hb); clear hb)
     clear HCON HM13 HB13; have HCON := Aside0.mk (laws_dLists.calls k A_tb c_tb table A_tb2 c_tb2 table true w14 (HM14.out.now.2.1) HL_tb.out (HM14.out.now.1) HL_tb2.out Z12.out)
     go_wp2_with (go_at_call 17; (with_reducible refine HCON.out.mono ?_); rintro e w15 ⟨rfl, hd⟩; have hb := Lw.below_of hd; clear hd; have HM15 := Aside0.mk (HM14.out.mv hb); have HB15 := Aside0.mk (below_step HB14.out hb); clear hb)
     clear HCON HM14 HB14; have HCON := Aside0.mk (impl_IsTermList.calls k A_l c_l l false w15 (HM15.out.now.2.2.2.2.1) HL_l.out Z13.out)
     go_wp2_with (go_at_call 18; (with_reducible refine HCON.out.mono ?_); rintro e w16 ⟨rfl, hd⟩; have hb := Lw.below_of hd; clear hd; have HM16 := Aside0.mk (HM15.out.mv hb); have HB16 := Aside0.mk (below_step HB15.out hb); clear hb)
     clear HCON HM15 HB15; have HCON := Aside0.mk (impl_IsTermList.calls k A_l c_l l false w16 (HM16.out.now.2.2.2.2.1) HL_l.out Z13.out)
     go_wp2_with (go_at_call 18; (with_reducible refine HCON.out.mono ?_); rintro e w17 ⟨rfl, hd⟩; have hb := Lw.below_of hd; clear hd; have HM17 := Aside0.mk (HM16.out.mv hb); have HB17 := Aside0.mk (below_step HB16.out hb); clear hb)
     clear HCON HM16 HB16; have HCON := Aside0.mk (spec_IsTermList.calls k A_l c_l l false w17 (HM17.out.now.2.2.2.2.1) HL_l.out Z14.out)
     go_wp2_with (go_at_call 19; (with_reducible refine HCON.out.mono ?_); rintro e w18 ⟨rfl, hd⟩; have hb := Lw.below_of hd; clear hd; have HM18 := Aside0.mk (HM17.out.mv hb); have HB18 := Aside0.mk (below_step HB17.out hb); clear hb)
     clear HCON HM17 HB17; have HCON := Aside0.mk (spec_DrawSplitContinuant.calls k A_m c_m l1 s t w18 (HM18.out.now.2.2.2.2.2.1) HL_m.out Y1.out)
     go_wp2_with (go_at_call 24; (with_reducible refine HCON.out.mono ?_); rintro e w19 ⟨v_, rfl, ho, hb⟩; obtain ⟨A_s, c_s, e_, hl_s, hc_⟩ := Kd.R_reads ho; subst e_; have HM19 := Aside0.mk (HM18.out.add hb hc_); have HL_s := Aside0.mk hl_s; clear ho hc_ hl_s; have HB19 := Aside0.mk (below_step HB18.out hb); clear hb)
     clear HCON HM18 HB18; have HCON := Aside0.mk (impl_SplitContinuant.calls k A_s c_s s t p ok9 w19 (HM19.out.now.1) HL_s.out Y2.out)
     go_wp2_with (go_at_call 23; (with_reducible refine HCON.out.mono ?_); rintro e w20 ⟨v_, rfl, ho, hb⟩; obtain ⟨A_p, c_p, e_, hl_p, hc_⟩ := Kd.R_reads ho; subst e_; have HM20 := Aside0.mk (HM19.out.add hb hc_); have HL_p := Aside0.mk hl_p; clear ho hc_ hl_p; have HB20 := Aside0.mk (below_step HB19.out hb); clear hb)
     clear HCON HM19 HB19; have HCON := Aside0.mk (spec_SplitContinuant.calls k A_s c_s s t p ok9 w20 (HM20.out.now.2.1) HL_s.out Y3.out)
     go_wp2_with (go_at_call 25; (with_reducible refine HCON.out.mono ?_); rintro e w21 ⟨v_, rfl, ho, hb⟩; obtain ⟨A_p2, c_p2, e_, hl_p2, hc_⟩ := Kd.R_reads ho; subst e_; have HM21 := Aside0.mk (HM20.out.add hb hc_); have HL_p2 := Aside0.mk hl_p2; clear ho hc_ hl_p2; have HB21 := Aside0.mk (below_step HB20.out hb); clear hb)
     clear HCON HM20 HB20; have HCON := Aside0.mk (spec_DrawCountTerms.calls A_m c_m l1 n2 w21 (HM21.out.now.2.2.2.2.2.2.2.2.1) HL_m.out Y5.out)
     go_wp2_with (go_at_call 26; (with_reducible refine HCON.out.mono ?_); rintro e w22 ⟨rfl, hb⟩; have HM22 := Aside0.mk (HM21.out.mv hb); have HB22 := Aside0.mk (below_step HB21.out hb); clear hb)
     clear HCON HM21 HB21; have HCON := Aside0.mk (impl_CountTerms.calls k n2 cnt ok11 w22 Y6.out)
     go_wp2_with (go_at_call 21; (with_reducible refine HCON.out.mono ?_); rintro e w23 ⟨rfl, hb⟩; have HM23 := Aside0.mk (HM22.out.mv hb); have HB23 := Aside0.mk (below_step HB22.out hb); clear hb)
     clear HCON HM22 HB22; have HCON := Aside0.mk (spec_CountTerms.calls k n2 cnt ok11 w23 Y7.out)
     go_wp2_with (go_at_call 27; (with_reducible refine HCON.out.mono ?_); rintro e w24 ⟨rfl, hb⟩; have HM24 := Aside0.mk (HM23.out.mv hb); have HB24 := Aside0.mk (below_step HB23.out hb); clear hb)
     clear HCON HM23 HB23; have HCON := Aside0.mk (spec_DrawEntryByContinuant.calls k A_m c_m l1 q ii jj w24 (HM24.out.now.2.2.2.2.2.2.2.2.1) HL_m.out Y8.out)
     go_wp2_with (go_at_call 28; (with_reducible refine HCON.out.mono ?_); rintro e w25 ⟨v_, rfl, ho, hb⟩; obtain ⟨A_q, c_q, e_, hl_q, hc_⟩ := Kd.Q_reads ho; subst e_; have HM25 := Aside0.mk (HM24.out.add hb hc_); have HL_q := Aside0.mk hl_q; clear ho hc_ hl_q; have HB25 := Aside0.mk (below_step HB24.out hb); clear hb)
     clear HCON HM24 HB24; have HCON := Aside0.mk (impl_EntryByContinuant.calls k A_q c_q q ii jj entry ok13 w25 (HM25.out.now.1) HL_q.out Y9.out)
     go_wp2_with (go_at_call 29; (with_reducible refine HCON.out.mono ?_); rintro e w26 ⟨rfl, hb⟩; have HM26 := Aside0.mk (HM25.out.mv hb); have HB26 := Aside0.mk (below_step HB25.out hb); clear hb)
     clear HCON HM25 HB25; have HCON := Aside0.mk (spec_EntryByContinuant.calls k A_q c_q q ii jj entry ok13 w26 (HM26.out.now.1) HL_q.out Y10.out)
     go_wp2_with (go_at_call 30; (with_reducible refine HCON.out.mono ?_); rintro e w27 ⟨rfl, hb⟩; have HM27 := Aside0.mk (HM26.out.mv hb); have HB27 := Aside0.mk (below_step HB26.out hb); clear hb)
     clear HCON HM26 HB26
     cases ok13 with
     | false =>
      have HCON := Aside0.mk (laws_dSame.calls k A_p c_p p A_p2 c_p2 p true w27 (HM27.out.now.2.2.1) HL_p.out (HM27.out.now.2.1) HL_p2.out Y4.out)
      go_wp2_with (go_at_call 16; (with_reducible refine HCON.out.mono ?_); rintro e w28 ⟨rfl, hd⟩; have hb := Lw.below_of hd; clear hd; have HM28 := Aside0.mk (HM27.out.mv hb); have HB28 := Aside0.mk (below_step HB27.out hb); clear hb)
      clear HCON HM27 HB27
      go_ret
      exact ⟨rfl, HB28.out⟩
     | true =>
      have HCON := Aside0.mk (laws_dSame.calls k A_p c_p p A_p2 c_p2 p true w27 (HM27.out.now.2.2.1) HL_p.out (HM27.out.now.2.1) HL_p2.out Y4.out)
      go_wp2_with (go_at_call 16; (with_reducible refine HCON.out.mono ?_); rintro e w29 ⟨rfl, hd⟩; have hb := Lw.below_of hd; clear hd; have HM29 := Aside0.mk (HM27.out.mv hb); have HB29 := Aside0.mk (below_step HB27.out hb); clear hb)
      clear HCON HM27 HB27; have HCON := Aside0.mk (impl_EntryOf.calls k A_q c_q q ii jj entry true w29 (HM29.out.now.1) HL_q.out (by first | exact Y11.out rfl | exact Y11.out trivial))
      go_wp2_with (go_at_call 31; (with_reducible refine HCON.out.mono ?_); rintro e w30 ⟨rfl, hb⟩; have HM30 := Aside0.mk (HM29.out.mv hb); have HB30 := Aside0.mk (below_step HB29.out hb); clear hb)
      clear HCON HM29 HB29
      go_ret
      exact ⟨rfl, HB30.out⟩
   | true =>
    obtain ⟨⟨back, cn, x1, x2, x3, x4⟩, x5, x6, x7, x8, x9, x10⟩ := ZK.out rfl; have X1 := Aside0.mk x1; have X2 := Aside0.mk x2; have X3 := Aside0.mk x3; have X4 := Aside0.mk x4; have X5 := Aside0.mk x5; have X6 := Aside0.mk x6; have X7 := Aside0.mk x7; have X8 := Aside0.mk x8; have X9 := Aside0.mk x9; have X10 := Aside0.mk x10; clear ZK x1 x2 x3 x4 x5 x6 x7 x8 x9 x10; have f1 := laws_FnContinuantsSplit.ne_ X4.out; have f2 := laws_FnContinuantsSplit.nn_ X6.out
    simp only [List.append_eq, List.cons_append, List.nil_append]
    go_cut [213] from 513 (fun v213 wc => v213 = .bool false ∧ Aside0 (Below w13.heap.size w13 wc))
    case first =>
     clear f1 f2; have HBF := Aside0.mk (Below.refl w13.heap.size w13)
     cases seven with
     | false =>
      have HCON := Aside0.mk (laws_dSame.calls k A_pa c_pa parts A_pa2 c_pa2 parts true w13 (HM13.out.now.2.2.2.1) HL_pa.out (HM13.out.now.2.2.1) HL_pa2.out Z11.out)
      go_wp2_with (go_at_call 16; (with_reducible refine HCON.out.mono ?_); rintro e w31 ⟨rfl, hd⟩; have hb := Lw.below_of hd; clear hd; have HM31 := Aside0.mk (HM13.out.mv hb); have HB31 := Aside0.mk (below_step HBF.out hb); clear hb)
      clear HCON HM13 HBF; have HCON := Aside0.mk (laws_dLists.calls k A_tb c_tb table A_tb2 c_tb2 table true w31 (HM31.out.now.2.1) HL_tb.out (HM31.out.now.1) HL_tb2.out Z12.out)
      go_wp2_with (go_at_call 17; (with_reducible refine HCON.out.mono ?_); rintro e w32 ⟨rfl, hd⟩; have hb := Lw.below_of hd; clear hd; have HM32 := Aside0.mk (HM31.out.mv hb); have HB32 := Aside0.mk (below_step HB31.out hb); clear hb)
      clear HCON HM31 HB31; have HCON := Aside0.mk (impl_IsTermList.calls k A_l c_l l true w32 (HM32.out.now.2.2.2.2.1) HL_l.out Z13.out)
      go_wp2_with (go_at_call 18; (with_reducible refine HCON.out.mono ?_); rintro e w33 ⟨rfl, hd⟩; have hb := Lw.below_of hd; clear hd; have HM33 := Aside0.mk (HM32.out.mv hb); have HB33 := Aside0.mk (below_step HB32.out hb); clear hb)
      clear HCON HM32 HB32; have HCON := Aside0.mk (impl_IsTermList.calls k A_l c_l l true w33 (HM33.out.now.2.2.2.2.1) HL_l.out Z13.out)
      go_wp2_with (go_at_call 18; (with_reducible refine HCON.out.mono ?_); rintro e w34 ⟨rfl, hd⟩; have hb := Lw.below_of hd; clear hd; have HM34 := Aside0.mk (HM33.out.mv hb); have HB34 := Aside0.mk (below_step HB33.out hb); clear hb)
      clear HCON HM33 HB33; have HCON := Aside0.mk (spec_IsTermList.calls k A_l c_l l true w34 (HM34.out.now.2.2.2.2.1) HL_l.out Z14.out)
      go_wp2_with (go_at_call 19; (with_reducible refine HCON.out.mono ?_); rintro e w35 ⟨rfl, hd⟩; have hb := Lw.below_of hd; clear hd; have HM35 := Aside0.mk (HM34.out.mv hb); have HB35 := Aside0.mk (below_step HB34.out hb); clear hb)
      clear HCON HM34 HB34
      go_meet
      case rel => exact ⟨rfl, ⟨HB35.out⟩⟩
     | true =>
      have hl0 : ((l.length : Int) == 0) = false := by have := (Z15.out rfl).2; rw [beq_eq_false_iff_ne]; omega
      have HCON := Aside0.mk (laws_dSame.calls k A_pa c_pa parts A_pa2 c_pa2 parts true w13 (HM13.out.now.2.2.2.1) HL_pa.out (HM13.out.now.2.2.1) HL_pa2.out Z11.out)
      go_wp2_with (go_at_call 16; (with_reducible refine HCON.out.mono ?_); rintro e w36 ⟨rfl, hd⟩; have hb := Lw.below_of hd; clear hd; have HM36 := Aside0.mk (HM13.out.mv hb); have HB36 := Aside0.mk (below_step HBF.out hb); clear hb)
      clear HCON HM13 HBF; have HCON := Aside0.mk (laws_dLists.calls k A_tb c_tb table A_tb2 c_tb2 table true w36 (HM36.out.now.2.1) HL_tb.out (HM36.out.now.1) HL_tb2.out Z12.out)
      go_wp2_with (go_at_call 17; (with_reducible refine HCON.out.mono ?_); rintro e w37 ⟨rfl, hd⟩; have hb := Lw.below_of hd; clear hd; have HM37 := Aside0.mk (HM36.out.mv hb); have HB37 := Aside0.mk (below_step HB36.out hb); clear hb)
      clear HCON HM36 HB36; have HCON := Aside0.mk (impl_IsTermList.calls k A_l c_l l true w37 (HM37.out.now.2.2.2.2.1) HL_l.out Z13.out)
      go_wp2_with (go_at_call 18; (with_reducible refine HCON.out.mono ?_); rintro e w38 ⟨rfl, hd⟩; have hb := Lw.below_of hd; clear hd; have HM38 := Aside0.mk (HM37.out.mv hb); have HB38 := Aside0.mk (below_step HB37.out hb); clear hb)
      clear HCON HM37 HB37; have HCON := Aside0.mk (impl_IsTermList.calls k A_l c_l l true w38 (HM38.out.now.2.2.2.2.1) HL_l.out Z13.out)
      go_wp2_with (go_at_call 18; (with_reducible refine HCON.out.mono ?_); rintro e w39 ⟨rfl, hd⟩; have hb := Lw.below_of hd; clear hd; have HM39 := Aside0.mk (HM38.out.mv hb); have HB39 := Aside0.mk (below_step HB38.out hb); clear hb)
      clear HCON HM38 HB38; have HCON := Aside0.mk (spec_IsTermList.calls k A_l c_l l true w39 (HM39.out.now.2.2.2.2.1) HL_l.out Z14.out)
      go_wp2_with (go_at_call 19; (with_reducible refine HCON.out.mono ?_); rintro e w40 ⟨rfl, hd⟩; have hb := Lw.below_of hd; clear hd; have HM40 := Aside0.mk (HM39.out.mv hb); have HB40 := Aside0.mk (below_step HB39.out hb); clear hb)
      clear HCON HM39 HB39
      go_meet
      case rel => exact ⟨rfl, ⟨HB40.out⟩⟩
    case rest =>
     obtain ⟨rfl, HBc_⟩ := hcut; have HMc := Aside0.mk (HM13.out.mv HBc_.out); have HBc := Aside0.mk (below_step HB13.out HBc_.out); clear HBc_ HM13 HB13; obtain ⟨wM, rfl⟩ : ∃ x, x = wc := ⟨_, rfl⟩; have HCON := Aside0.mk (laws_dBack.calls k A_l c_l l back wM (HMc.out.now.2.2.2.2.1) HL_l.out X1.out)
     go_wp2_with (go_at_call 20; (with_reducible refine HCON.out.mono ?_); rintro e w41 ⟨v_, rfl, ho, hb⟩; obtain ⟨A_bk, c_bk, e_, hl_bk, hc_⟩ := Kd.R_reads ho; subst e_; have HM41 := Aside0.mk (HMc.out.add hb hc_); have HL_bk := Aside0.mk hl_bk; clear ho hc_ hl_bk; have HB41 := Aside0.mk (below_step HBc.out hb); clear hb)
     clear HCON HMc HBc; have HCON := Aside0.mk (impl_ContinuantOf.calls k A_bk c_bk back value true w41 (HM41.out.now.1) HL_bk.out X2.out)
     go_wp2_with (go_at_call 8; (with_reducible refine HCON.out.mono ?_); rintro e w42 ⟨rfl, hd⟩; have hb := Lw.below_of hd; clear hd; have HM42 := Aside0.mk (HM41.out.mv hb); have HB42 := Aside0.mk (below_step HB41.out hb); clear hb)
     clear HCON HM41 HB41; have HCON := Aside0.mk (impl_CountTerms.calls k (l.length : Int) cn true w42 X3.out)
     go_wp2_with (go_at_call 21; (with_reducible refine HCON.out.mono ?_); rintro e w43 ⟨rfl, hb⟩; have HM43 := Aside0.mk (HM42.out.mv hb); have HB43 := Aside0.mk (below_step HB42.out hb); clear hb)
     clear HCON HM42 HB42; have HCON := Aside0.mk (laws_dSum.calls k A_pa c_pa parts value w43 (HM43.out.now.2.2.2.2.1) HL_pa.out X5.out)
     go_wp2_with (go_at_call 22; (with_reducible refine HCON.out.mono ?_); rintro e w44 ⟨rfl, hd⟩; have hb := Lw.below_of hd; clear hd; have HM44 := Aside0.mk (HM43.out.mv hb); have HB44 := Aside0.mk (below_step HB43.out hb); clear hb)
     clear HCON HM43 HB43; clear f1 f2; clear HZ HD Z1 Z2 Z3 Z4 Z5 Z6 Z7 Z8 Z9 Z10 Z11 Z12 Z13 Z14 Z15 X1 X2 X3 X4 X5
     revert k A_c c_c l0 A_m c_m l1 w l parts value plus table num den seven s t p ok9 n2 cnt ok11 q ii jj entry ok13 A_l c_l A_pa c_pa A_pa2 c_pa2 A_tb c_tb A_tb2 c_tb2 back cn
     revert A_bk c_bk u119 u120 u121 u122 u123 u124 u125 u126 u127 u128 u129 u130 u131 u132 u133 u134 u135 u136 u137 u138 u139 u140 u141 u142 u143 u144 u145 u146 u147 u148 u149 u150 u151 u152 u153 u154 u155 u156
     revert u157 u158 u159 u160 u161 u162 u163 u164 u165 u166 u167 u168 u169 u170 u171 u172 u173 u174 u175 u176 u177 u178 u179 u180 u181 u182 u183 u184 u185 u186 u187 u188 u189 u190 u191 u192 u193 u194 u195 u196
     revert u197 u198 u199 u200 u201 u202 u203 u204 u205 u206 u207 u208 u209 u210 u211 u212 w44
     repeat (rename_i x_; revert x_)
     exact HG_p1.out
set_option maxHeartbeats 80000000 in
set_option maxRecDepth 100000 in
def laws_FnContinuantsSplit.p1 : (G_p2 : Prop) ×' (G_p3 : Prop) ×' (G_p2 → G_p3 → laws_FnContinuantsSplit.m0.1) := by
 apply PSigma.mk; apply PSigma.mk
 focus
  intro HG_p2 HG_p3; replace HG_p2 := Aside0.mk HG_p2; replace HG_p3 := Aside0.mk HG_p3
  unhygienic (intro x_; intros)
  go_loopg [259] (table.length + 1) (fun kq v259 w' => ∃ i : Nat, v259 = .int .i64 (i : Int) ∧ Aside0 (i ≤ table.length ∧ kq + i = table.length + 1) ∧ Aside0 (Below w44.heap.size w44 w'))
  case atStart => exact ⟨0, rfl, ⟨⟨Nat.zero_le _, rfl⟩⟩, ⟨Below.refl _ _⟩⟩
  case round =>
   obtain ⟨i, rfl, HI, HBr⟩ := hrel; obtain ⟨wB, rfl⟩ : ∃ x, x = wr := ⟨_, rfl⟩; obtain ⟨gB, rfl⟩ : ∃ x, x = gk := ⟨_, rfl⟩; have HMr := Aside0.mk (HM44.out.mv HBr.out)
   by_cases ci : i < table.length
   ·obtain ⟨hi0, hi1, cd⟩ := laws_FnContinuantsSplit.a3 ci
    have cil : i < l.length := by rw [← X6.out]; exact ci
    obtain ⟨ad1, A_r, c_r, e1, hx1, hlr, hcr⟩ := laws_FnContinuantsSplit.at_row (HMr.out.now.2.2.1) (i : Int) hi0 hi1
    cases e1
    rw [Int.toNat_natCast] at hx1
    obtain ⟨k1, k2, k3, k4⟩ := X8.out i cil; obtain ⟨row, hrow⟩ : ∃ row, laws_FnContinuantsSplit.row table (i : Int) = row := ⟨_, rfl⟩; rw [hrow] at hx1 hlr hcr k1 k2 k3 k4
    obtain ⟨hs, hr0, _, hi4⟩ := laws_FnContinuantsSplit.r1 X7.out k1 cil; obtain ⟨adr, er, hc0⟩ := Kd.at_int hcr 0 (Int.le_refl _) hr0
    cases er
    obtain ⟨adl, el, hc1⟩ := Kd.at_int (HMr.out.now.2.2.2.2.2.1) (i : Int) hi0 (laws_FnContinuantsSplit.a3 cil).2.1
    cases el
    rw [Int.toNat_natCast] at hc1
    rw [k2] at hc0
    obtain ⟨z, hz⟩ : ∃ z, rd l (i : Int) = z := ⟨_, rfl⟩; rw [hz] at hc0 hc1
    have hc0' : wB.cell? adr = some (.int .i64 z) := by have h_ := hc0; rw [show adr.add (0 : Int).toNat = adr from by cases adr; rfl] at h_; exact h_
    have hrn := eq_true (show 0 < row.length by omega)
    have K1 := Aside0.mk k1; have K4 := Aside0.mk k4; have HCR := Aside0.mk hcr; have HRL := Aside0.mk (show row.length ≤ 1000 by have := X7.out; omega)
    have HR1 := Aside0.mk (show 1 ≤ row.length by omega)
    have hg1 := laws_FnContinuantsSplit.a1 HI.out ci; have hi2 := eq_true (laws_FnContinuantsSplit.a3 cil).2.1; replace hi0 := eq_true hi0; replace hi1 := eq_true hi1; replace hr0 := eq_true hr0; have HHZ := Aside0.mk hz; have K3 := Aside0.mk k3; clear k1 k2 k3 k4 hrow hlr hz
    go_wp2_with (fail)
    go_upto_region 25 with (fail)
    go_cut [292] from 513 (fun v292 wc => v292 = .bool false ∧ Aside0 (Below wB.heap.size wB wc))
    case first =>
     by_cases ci0 : i = 0
     ·obtain ⟨hq0, hq1, hq2, hq3⟩ := laws_FnContinuantsSplit.r2 X7.out (show 0 < l.length by omega)
      obtain ⟨ad3, e3, hc2⟩ := Kd.at_int hcr ((l.length : Int) - 1) hq1 (by have := K1.out; omega)
      cases e3
      rw [K3.out ci0, hq3] at hc2
      have cz : ((i : Int) == 0) = true := by rw [ci0]; rfl
      obtain ⟨nm, hnm⟩ : ∃ nm, (l.length : Int) - 1 = nm := ⟨_, rfl⟩; obtain ⟨jn, hjn⟩ : ∃ jn, l.length - 1 = jn := ⟨_, rfl⟩; have hq4 : (nm < (row.length : Int)) = True := eq_true (by have := K1.out; omega)
      have hq0' := hq0.trans hnm; rw [hnm] at hq1 hq2 hq3
      rw [hjn] at hq3 hc2
      replace hq1 := eq_true hq1; replace hq2 := eq_true hq2; clear hcr ci cil hc0 ci0 hnm hjn hq0; refine start_ (n := 29) (S := fun w' => w'.cell? adr = some (.int .i64 z) ∧ w'.cell? (adl.add i) = some (.int .i64 z) ∧ w'.cell? (adr.add jn) = some (.int .i64 value)) (ds := []) #[false, false, false, false, false, false, false, false, false, false, false, false, false, false, false, false, false, false, false, false, false, false, false, false, false, false, false, false, false] (by kernel_rfl) rfl rfl ⟨hc0', hc1, hc2⟩ (fun hHeld => ?_)
      refine pure_ (i := 0) (N := some 264) (v := ?_) (a' := ?_) #[true, false, false, false, false, false, false, false, false, false, false, false, false, false, false, false, false, false, false, false, false, false, false, false, false, false, false, false, false] rfl rfl (by kernel_rfl) (fun _ _ _ h => h) (Or.inl ⟨by kernel_rfl, ?_⟩) ?_ ?_
      rotate_left
      ·intro w'
       go_simp
       with_reducible rfl
      rotate_left
      ·simp only [Act.put, List.setIfInBounds_toArray, List.set_cons_zero, List.set_cons_succ, i64_w, i32_w]
       rfl
      refine pure_ (i := 1) (N := some 265) (v := ?_) (a' := ?_) #[true, true, false, false, false, false, false, false, false, false, false, false, false, false, false, false, false, false, false, false, false, false, false, false, false, false, false, false, false] rfl rfl (by kernel_rfl) (fun _ _ _ h => h) (Or.inl ⟨by kernel_rfl, ?_⟩) ?_ ?_
      rotate_left
      ·intro w'
       go_simp
       with_reducible rfl
      rotate_left
      ·simp only [Act.put, List.setIfInBounds_toArray, List.set_cons_zero, List.set_cons_succ, i64_w, i32_w]
       rfl
      refine pure_ (i := 2) (N := some 266) (v := ?_) (a' := ?_) #[true, true, true, false, false, false, false, false, false, false, false, false, false, false, false, false, false, false, false, false, false, false, false, false, false, false, false, false, false] rfl rfl (by kernel_rfl) (fun _ _ _ h => h) (Or.inl ⟨by kernel_rfl, ?_⟩) ?_ ?_
      rotate_left
      ·intro w'
       go_simp
       with_reducible rfl
      rotate_left
      ·simp only [Act.put, List.setIfInBounds_toArray, List.set_cons_zero, List.set_cons_succ, i64_w, i32_w]
       rfl
      refine pure_ (i := 3) (N := some 267) (v := ?_) (a' := ?_) #[true, true, true, true, false, false, false, false, false, false, false, false, false, false, false, false, false, false, false, false, false, false, false, false, false, false, false, false, false] rfl rfl (by kernel_rfl) (fun _ _ _ h => h) (Or.inl ⟨by kernel_rfl, ?_⟩) ?_ ?_
      rotate_left
      ·intro w'
       go_simp
       with_reducible rfl
      rotate_left
      ·simp only [Act.put, List.setIfInBounds_toArray, List.set_cons_zero, List.set_cons_succ, i64_w, i32_w]
       rfl
      refine pure_ (i := 4) (N := some 268) (v := ?_) (a' := ?_) #[true, true, true, true, true, false, false, false, false, false, false, false, false, false, false, false, false, false, false, false, false, false, false, false, false, false, false, false, false] rfl rfl (by kernel_rfl) (fun _ _ _ h => h) (Or.inl ⟨by kernel_rfl, ?_⟩) ?_ ?_
      rotate_left
      ·intro w'
       go_simp
       with_reducible rfl
      rotate_left
      ·simp only [Act.put, List.setIfInBounds_toArray, List.set_cons_zero, List.set_cons_succ, i64_w, i32_w]
       rfl
      refine pure_ (i := 5) (N := some 269) (v := ?_) (a' := ?_) #[true, true, true, true, true, true, false, false, false, false, false, false, false, false, false, false, false, false, false, false, false, false, false, false, false, false, false, false, false] rfl rfl (by kernel_rfl) (fun _ _ _ h => h) (Or.inl ⟨by kernel_rfl, ?_⟩) ?_ ?_
      rotate_left
      ·intro w'
       go_simp
       with_reducible rfl
      rotate_left
      ·simp only [Act.put, List.setIfInBounds_toArray, List.set_cons_zero, List.set_cons_succ, i64_w, i32_w]
       rfl
      refine pure_ (i := 6) (N := some 270) (v := ?_) (a' := ?_) #[true, true, true, true, true, true, true, false, false, false, false, false, false, false, false, false, false, false, false, false, false, false, false, false, false, false, false, false, false] rfl rfl (by kernel_rfl) (fun _ _ _ h => h) (Or.inl ⟨by kernel_rfl, ?_⟩) ?_ ?_
      rotate_left
      ·intro w'
       go_simp
       with_reducible rfl
      rotate_left
      ·simp only [Act.put, List.setIfInBounds_toArray, List.set_cons_zero, List.set_cons_succ, i64_w, i32_w]
       rfl
      refine pure_ (i := 7) (N := some 271) (v := ?_) (a' := ?_) #[true, true, true, true, true, true, true, true, false, false, false, false, false, false, false, false, false, false, false, false, false, false, false, false, false, false, false, false, false] rfl rfl (by kernel_rfl) (fun _ _ _ h => h) (Or.inl ⟨by kernel_rfl, ?_⟩) ?_ ?_
      rotate_left
      ·intro w'
       go_simp
       with_reducible rfl
      rotate_left
      ·simp only [Act.put, List.setIfInBounds_toArray, List.set_cons_zero, List.set_cons_succ, i64_w, i32_w]
       rfl
      refine pure_ (i := 8) (N := some 272) (v := ?_) (a' := ?_) #[true, true, true, true, true, true, true, true, true, false, false, false, false, false, false, false, false, false, false, false, false, false, false, false, false, false, false, false, false] rfl rfl (by kernel_rfl) (fun _ _ _ h => h) (Or.inl ⟨by kernel_rfl, ?_⟩) ?_ ?_
      rotate_left
      ·intro w'
       go_simp
       with_reducible rfl
      rotate_left
      ·simp only [Act.put, List.setIfInBounds_toArray, List.set_cons_zero, List.set_cons_succ, i64_w, i32_w]
       rfl
      refine take_ (i := 9) (N := some 273) (v := ?_) (a' := ?_) #[true, true, true, true, true, true, true, true, true, true, false, false, false, false, false, false, false, false, false, false, false, false, false, false, false, false, false, false, false] rfl rfl (by kernel_rfl) (fun _ _ _ h => h) (Or.inl ⟨by kernel_rfl, ?_⟩) hHeld ?_ ?_
      rotate_left
      ·rintro w' ⟨s0, s1, s2⟩
       go_simp
       with_reducible rfl
      rotate_left
      ·simp only [Act.put, List.setIfInBounds_toArray, List.set_cons_zero, List.set_cons_succ, i64_w, i32_w]
       rfl
      refine pure_ (i := 10) (N := some 274) (v := ?_) (a' := ?_) #[true, true, true, true, true, true, true, true, true, true, true, false, false, false, false, false, false, false, false, false, false, false, false, false, false, false, false, false, false] rfl rfl (by kernel_rfl) (fun _ _ _ h => h) (Or.inl ⟨by kernel_rfl, ?_⟩) ?_ ?_
      rotate_left
      ·intro w'
       go_simp
       with_reducible rfl
      rotate_left
      ·simp only [Act.put, List.setIfInBounds_toArray, List.set_cons_zero, List.set_cons_succ, i64_w, i32_w]
       rfl
      refine pure_ (i := 11) (N := some 275) (v := ?_) (a' := ?_) #[true, true, true, true, true, true, true, true, true, true, true, true, false, false, false, false, false, false, false, false, false, false, false, false, false, false, false, false, false] rfl rfl (by kernel_rfl) (fun _ _ _ h => h) (Or.inl ⟨by kernel_rfl, ?_⟩) ?_ ?_
      rotate_left
      ·intro w'
       go_simp
       with_reducible rfl
      rotate_left
      ·simp only [Act.put, List.setIfInBounds_toArray, List.set_cons_zero, List.set_cons_succ, i64_w, i32_w]
       rfl
      refine pure_ (i := 12) (N := some 276) (v := ?_) (a' := ?_) #[true, true, true, true, true, true, true, true, true, true, true, true, true, false, false, false, false, false, false, false, false, false, false, false, false, false, false, false, false] rfl rfl (by kernel_rfl) (fun _ _ _ h => h) (Or.inl ⟨by kernel_rfl, ?_⟩) ?_ ?_
      rotate_left
      ·intro w'
       go_simp
       with_reducible rfl
      rotate_left
      ·simp only [Act.put, List.setIfInBounds_toArray, List.set_cons_zero, List.set_cons_succ, i64_w, i32_w]
       rfl
      refine take_ (i := 13) (N := some 277) (v := ?_) (a' := ?_) #[true, true, true, true, true, true, true, true, true, true, true, true, true, true, false, false, false, false, false, false, false, false, false, false, false, false, false, false, false] rfl rfl (by kernel_rfl) (fun _ _ _ h => h) (Or.inl ⟨by kernel_rfl, ?_⟩) hHeld ?_ ?_
      rotate_left
      ·rintro w' ⟨s0, s1, s2⟩
       go_simp
       with_reducible rfl
      rotate_left
      ·simp only [Act.put, List.setIfInBounds_toArray, List.set_cons_zero, List.set_cons_succ, i64_w, i32_w]
       rfl
      refine pure_ (i := 14) (N := some 278) (v := ?_) (a' := ?_) #[true, true, true, true, true, true, true, true, true, true, true, true, true, true, true, false, false, false, false, false, false, false, false, false, false, false, false, false, false] rfl rfl (by kernel_rfl) (fun _ _ _ h => h) (Or.inl ⟨by kernel_rfl, ?_⟩) ?_ ?_
      rotate_left
      ·intro w'
       go_simp
       with_reducible rfl
      rotate_left
      ·simp only [Act.put, List.setIfInBounds_toArray, List.set_cons_zero, List.set_cons_succ, i64_w, i32_w]
       rfl
      refine pure_ (i := 15) (N := some 279) (v := ?_) (a' := ?_) #[true, true, true, true, true, true, true, true, true, true, true, true, true, true, true, true, false, false, false, false, false, false, false, false, false, false, false, false, false] rfl rfl (by kernel_rfl) (fun _ _ _ h => h) (Or.inl ⟨by kernel_rfl, ?_⟩) ?_ ?_
      rotate_left
      ·intro w'
       go_simp
       with_reducible rfl
      rotate_left
      ·simp only [Act.put, List.setIfInBounds_toArray, List.set_cons_zero, List.set_cons_succ, i64_w, i32_w]
       rfl
      refine pure_ (i := 16) (N := some 280) (v := ?_) (a' := ?_) #[true, true, true, true, true, true, true, true, true, true, true, true, true, true, true, true, true, false, false, false, false, false, false, false, false, false, false, false, false] rfl rfl (by kernel_rfl) (fun _ _ _ h => h) (Or.inl ⟨by kernel_rfl, ?_⟩) ?_ ?_
      rotate_left
      ·intro w'
       go_simp
       with_reducible rfl
      rotate_left
      ·simp only [Act.put, List.setIfInBounds_toArray, List.set_cons_zero, List.set_cons_succ, i64_w, i32_w]
       rfl
      refine pure_ (i := 17) (N := some 281) (v := ?_) (a' := ?_) #[true, true, true, true, true, true, true, true, true, true, true, true, true, true, true, true, true, true, false, false, false, false, false, false, false, false, false, false, false] rfl rfl (by kernel_rfl) (fun _ _ _ h => h) (Or.inl ⟨by kernel_rfl, ?_⟩) ?_ ?_
      rotate_left
      ·intro w'
       go_simp
       with_reducible rfl
      rotate_left
      ·simp only [Act.put, List.setIfInBounds_toArray, List.set_cons_zero, List.set_cons_succ, i64_w, i32_w]
       rfl
      refine pure_ (i := 18) (N := some 282) (v := ?_) (a' := ?_) #[true, true, true, true, true, true, true, true, true, true, true, true, true, true, true, true, true, true, true, false, false, false, false, false, false, false, false, false, false] rfl rfl (by kernel_rfl) (fun _ _ _ h => h) (Or.inl ⟨by kernel_rfl, ?_⟩) ?_ ?_
      rotate_left
      ·intro w'
       go_simp
       with_reducible rfl
      rotate_left
      ·simp only [Act.put, List.setIfInBounds_toArray, List.set_cons_zero, List.set_cons_succ, i64_w, i32_w]
       rfl
      refine pure_ (i := 19) (N := some 283) (v := ?_) (a' := ?_) #[true, true, true, true, true, true, true, true, true, true, true, true, true, true, true, true, true, true, true, true, false, false, false, false, false, false, false, false, false] rfl rfl (by kernel_rfl) (fun _ _ _ h => h) (Or.inl ⟨by kernel_rfl, ?_⟩) ?_ ?_
      rotate_left
      ·intro w'
       go_simp
       with_reducible rfl
      rotate_left
      ·simp only [Act.put, List.setIfInBounds_toArray, List.set_cons_zero, List.set_cons_succ, i64_w, i32_w]
       rfl
      refine pure_ (i := 20) (N := some 284) (v := ?_) (a' := ?_) #[true, true, true, true, true, true, true, true, true, true, true, true, true, true, true, true, true, true, true, true, true, false, false, false, false, false, false, false, false] rfl rfl (by kernel_rfl) (fun _ _ _ h => h) (Or.inl ⟨by kernel_rfl, ?_⟩) ?_ ?_
      rotate_left
      ·intro w'
       go_simp
       with_reducible rfl
      rotate_left
      ·simp only [Act.put, List.setIfInBounds_toArray, List.set_cons_zero, List.set_cons_succ, i64_w, i32_w]
       rfl
      refine pure_ (i := 21) (N := some 285) (v := ?_) (a' := ?_) #[true, true, true, true, true, true, true, true, true, true, true, true, true, true, true, true, true, true, true, true, true, true, false, false, false, false, false, false, false] rfl rfl (by kernel_rfl) (fun _ _ _ h => h) (Or.inl ⟨by kernel_rfl, ?_⟩) ?_ ?_
      rotate_left
      ·intro w'
       go_simp
       with_reducible rfl
      rotate_left
      ·simp only [Act.put, List.setIfInBounds_toArray, List.set_cons_zero, List.set_cons_succ, i64_w, i32_w]
       rfl
      refine pure_ (i := 22) (N := some 286) (v := ?_) (a' := ?_) #[true, true, true, true, true, true, true, true, true, true, true, true, true, true, true, true, true, true, true, true, true, true, true, false, false, false, false, false, false] rfl rfl (by kernel_rfl) (fun _ _ _ h => h) (Or.inl ⟨by kernel_rfl, ?_⟩) ?_ ?_
      rotate_left
      ·intro w'
       go_simp
       with_reducible rfl
      rotate_left
      ·simp only [Act.put, List.setIfInBounds_toArray, List.set_cons_zero, List.set_cons_succ, i64_w, i32_w]
       rfl
      refine pure_ (i := 23) (N := some 287) (v := ?_) (a' := ?_) #[true, true, true, true, true, true, true, true, true, true, true, true, true, true, true, true, true, true, true, true, true, true, true, true, false, false, false, false, false] rfl rfl (by kernel_rfl) (fun _ _ _ h => h) (Or.inl ⟨by kernel_rfl, ?_⟩) ?_ ?_
      rotate_left
      ·intro w'
       go_simp
       with_reducible rfl
      rotate_left
      ·simp only [Act.put, List.setIfInBounds_toArray, List.set_cons_zero, List.set_cons_succ, i64_w, i32_w]
       rfl
      refine take_ (i := 24) (N := some 288) (v := ?_) (a' := ?_) #[true, true, true, true, true, true, true, true, true, true, true, true, true, true, true, true, true, true, true, true, true, true, true, true, true, false, false, false, false] rfl rfl (by kernel_rfl) (fun _ _ _ h => h) (Or.inl ⟨by kernel_rfl, ?_⟩) hHeld ?_ ?_
      rotate_left
      ·rintro w' ⟨s0, s1, s2⟩
       go_simp
       with_reducible rfl
      rotate_left
      ·simp only [Act.put, List.setIfInBounds_toArray, List.set_cons_zero, List.set_cons_succ, i64_w, i32_w]
       rfl
      refine pure_ (i := 25) (N := some 289) (v := ?_) (a' := ?_) #[true, true, true, true, true, true, true, true, true, true, true, true, true, true, true, true, true, true, true, true, true, true, true, true, true, true, false, false, false] rfl rfl (by kernel_rfl) (fun _ _ _ h => h) (Or.inl ⟨by kernel_rfl, ?_⟩) ?_ ?_
      rotate_left
      ·intro w'
       go_simp
       with_reducible rfl
      rotate_left
      ·simp only [Act.put, List.setIfInBounds_toArray, List.set_cons_zero, List.set_cons_succ, i64_w, i32_w]
       rfl
      refine pure_ (i := 26) (N := some 290) (v := ?_) (a' := ?_) #[true, true, true, true, true, true, true, true, true, true, true, true, true, true, true, true, true, true, true, true, true, true, true, true, true, true, true, false, false] rfl rfl (by kernel_rfl) (fun _ _ _ h => h) (Or.inl ⟨by kernel_rfl, ?_⟩) ?_ ?_
      rotate_left
      ·intro w'
       go_simp
       with_reducible rfl
      rotate_left
      ·simp only [Act.put, List.setIfInBounds_toArray, List.set_cons_zero, List.set_cons_succ, i64_w, i32_w]
       rfl
      refine pure_ (i := 27) (N := some 291) (v := ?_) (a' := ?_) #[true, true, true, true, true, true, true, true, true, true, true, true, true, true, true, true, true, true, true, true, true, true, true, true, true, true, true, true, false] rfl rfl (by kernel_rfl) (fun _ _ _ h => h) (Or.inl ⟨by kernel_rfl, ?_⟩) ?_ ?_
      rotate_left
      ·intro w'
       go_simp
       with_reducible rfl
      rotate_left
      ·simp only [Act.put, List.setIfInBounds_toArray, List.set_cons_zero, List.set_cons_succ, i64_w, i32_w]
       rfl
      refine pure_ (i := 28) (N := some 292) (v := ?_) (a' := ?_) #[true, true, true, true, true, true, true, true, true, true, true, true, true, true, true, true, true, true, true, true, true, true, true, true, true, true, true, true, true] rfl rfl (by kernel_rfl) (fun _ _ _ h => h) (Or.inl ⟨by kernel_rfl, ?_⟩) ?_ ?_
      rotate_left
      ·intro w'
       go_simp
       with_reducible rfl
      rotate_left
      ·simp only [Act.put, List.setIfInBounds_toArray, List.set_cons_zero, List.set_cons_succ, i64_w, i32_w]
       rfl
      refine done_ (by kernel_rfl) ?_
      go_step
      go_step
      go_meet
      case rel => exact ⟨rfl, ⟨below_drew1 (Below.refl _ _)⟩⟩
     ·have cz := laws_FnContinuantsSplit.r3 ci0
      clear hcr ci cil hc0 ci0; refine start_ (n := 29) (S := fun w' => w'.cell? adr = some (.int .i64 z) ∧ w'.cell? (adl.add i) = some (.int .i64 z)) (ds := []) #[false, false, false, false, false, false, false, false, false, false, false, false, false, false, false, false, false, false, false, false, false, false, false, false, false, false, false, false, false] (by kernel_rfl) rfl rfl ⟨hc0', hc1⟩ (fun hHeld => ?_)
      refine pure_ (i := 0) (N := some 264) (v := ?_) (a' := ?_) #[true, false, false, false, false, false, false, false, false, false, false, false, false, false, false, false, false, false, false, false, false, false, false, false, false, false, false, false, false] rfl rfl (by kernel_rfl) (fun _ _ _ h => h) (Or.inl ⟨by kernel_rfl, ?_⟩) ?_ ?_
      rotate_left
      ·intro w'
       go_simp
       with_reducible rfl
      rotate_left
      ·simp only [Act.put, List.setIfInBounds_toArray, List.set_cons_zero, List.set_cons_succ, i64_w, i32_w]
       rfl
      refine pure_ (i := 1) (N := some 265) (v := ?_) (a' := ?_) #[true, true, false, false, false, false, false, false, false, false, false, false, false, false, false, false, false, false, false, false, false, false, false, false, false, false, false, false, false] rfl rfl (by kernel_rfl) (fun _ _ _ h => h) (Or.inl ⟨by kernel_rfl, ?_⟩) ?_ ?_
      rotate_left
      ·intro w'
       go_simp
       with_reducible rfl
      rotate_left
      ·simp only [Act.put, List.setIfInBounds_toArray, List.set_cons_zero, List.set_cons_succ, i64_w, i32_w]
       rfl
      refine pure_ (i := 2) (N := some 266) (v := ?_) (a' := ?_) #[true, true, true, false, false, false, false, false, false, false, false, false, false, false, false, false, false, false, false, false, false, false, false, false, false, false, false, false, false] rfl rfl (by kernel_rfl) (fun _ _ _ h => h) (Or.inl ⟨by kernel_rfl, ?_⟩) ?_ ?_
      rotate_left
      ·intro w'
       go_simp
       with_reducible rfl
      rotate_left
      ·simp only [Act.put, List.setIfInBounds_toArray, List.set_cons_zero, List.set_cons_succ, i64_w, i32_w]
       rfl
      refine pure_ (i := 3) (N := some 267) (v := ?_) (a' := ?_) #[true, true, true, true, false, false, false, false, false, false, false, false, false, false, false, false, false, false, false, false, false, false, false, false, false, false, false, false, false] rfl rfl (by kernel_rfl) (fun _ _ _ h => h) (Or.inl ⟨by kernel_rfl, ?_⟩) ?_ ?_
      rotate_left
      ·intro w'
       go_simp
       with_reducible rfl
      rotate_left
      ·simp only [Act.put, List.setIfInBounds_toArray, List.set_cons_zero, List.set_cons_succ, i64_w, i32_w]
       rfl
      refine pure_ (i := 4) (N := some 268) (v := ?_) (a' := ?_) #[true, true, true, true, true, false, false, false, false, false, false, false, false, false, false, false, false, false, false, false, false, false, false, false, false, false, false, false, false] rfl rfl (by kernel_rfl) (fun _ _ _ h => h) (Or.inl ⟨by kernel_rfl, ?_⟩) ?_ ?_
      rotate_left
      ·intro w'
       go_simp
       with_reducible rfl
      rotate_left
      ·simp only [Act.put, List.setIfInBounds_toArray, List.set_cons_zero, List.set_cons_succ, i64_w, i32_w]
       rfl
      refine pure_ (i := 5) (N := some 269) (v := ?_) (a' := ?_) #[true, true, true, true, true, true, false, false, false, false, false, false, false, false, false, false, false, false, false, false, false, false, false, false, false, false, false, false, false] rfl rfl (by kernel_rfl) (fun _ _ _ h => h) (Or.inl ⟨by kernel_rfl, ?_⟩) ?_ ?_
      rotate_left
      ·intro w'
       go_simp
       with_reducible rfl
      rotate_left
      ·simp only [Act.put, List.setIfInBounds_toArray, List.set_cons_zero, List.set_cons_succ, i64_w, i32_w]
       rfl
      refine pure_ (i := 6) (N := some 270) (v := ?_) (a' := ?_) #[true, true, true, true, true, true, true, false, false, false, false, false, false, false, false, false, false, false, false, false, false, false, false, false, false, false, false, false, false] rfl rfl (by kernel_rfl) (fun _ _ _ h => h) (Or.inl ⟨by kernel_rfl, ?_⟩) ?_ ?_
      rotate_left
      ·intro w'
       go_simp
       with_reducible rfl
      rotate_left
      ·simp only [Act.put, List.setIfInBounds_toArray, List.set_cons_zero, List.set_cons_succ, i64_w, i32_w]
       rfl
      refine pure_ (i := 7) (N := some 271) (v := ?_) (a' := ?_) #[true, true, true, true, true, true, true, true, false, false, false, false, false, false, false, false, false, false, false, false, false, false, false, false, false, false, false, false, false] rfl rfl (by kernel_rfl) (fun _ _ _ h => h) (Or.inl ⟨by kernel_rfl, ?_⟩) ?_ ?_
      rotate_left
      ·intro w'
       go_simp
       with_reducible rfl
      rotate_left
      ·simp only [Act.put, List.setIfInBounds_toArray, List.set_cons_zero, List.set_cons_succ, i64_w, i32_w]
       rfl
      refine pure_ (i := 8) (N := some 272) (v := ?_) (a' := ?_) #[true, true, true, true, true, true, true, true, true, false, false, false, false, false, false, false, false, false, false, false, false, false, false, false, false, false, false, false, false] rfl rfl (by kernel_rfl) (fun _ _ _ h => h) (Or.inl ⟨by kernel_rfl, ?_⟩) ?_ ?_
      rotate_left
      ·intro w'
       go_simp
       with_reducible rfl
      rotate_left
      ·simp only [Act.put, List.setIfInBounds_toArray, List.set_cons_zero, List.set_cons_succ, i64_w, i32_w]
       rfl
      refine take_ (i := 9) (N := some 273) (v := ?_) (a' := ?_) #[true, true, true, true, true, true, true, true, true, true, false, false, false, false, false, false, false, false, false, false, false, false, false, false, false, false, false, false, false] rfl rfl (by kernel_rfl) (fun _ _ _ h => h) (Or.inl ⟨by kernel_rfl, ?_⟩) hHeld ?_ ?_
      rotate_left
      ·rintro w' ⟨s0, s1⟩
       go_simp
       with_reducible rfl
      rotate_left
      ·simp only [Act.put, List.setIfInBounds_toArray, List.set_cons_zero, List.set_cons_succ, i64_w, i32_w]
       rfl
      refine pure_ (i := 10) (N := some 274) (v := ?_) (a' := ?_) #[true, true, true, true, true, true, true, true, true, true, true, false, false, false, false, false, false, false, false, false, false, false, false, false, false, false, false, false, false] rfl rfl (by kernel_rfl) (fun _ _ _ h => h) (Or.inl ⟨by kernel_rfl, ?_⟩) ?_ ?_
      rotate_left
      ·intro w'
       go_simp
       with_reducible rfl
      rotate_left
      ·simp only [Act.put, List.setIfInBounds_toArray, List.set_cons_zero, List.set_cons_succ, i64_w, i32_w]
       rfl
      refine pure_ (i := 11) (N := some 275) (v := ?_) (a' := ?_) #[true, true, true, true, true, true, true, true, true, true, true, true, false, false, false, false, false, false, false, false, false, false, false, false, false, false, false, false, false] rfl rfl (by kernel_rfl) (fun _ _ _ h => h) (Or.inl ⟨by kernel_rfl, ?_⟩) ?_ ?_
      rotate_left
      ·intro w'
       go_simp
       with_reducible rfl
      rotate_left
      ·simp only [Act.put, List.setIfInBounds_toArray, List.set_cons_zero, List.set_cons_succ, i64_w, i32_w]
       rfl
      refine pure_ (i := 12) (N := some 276) (v := ?_) (a' := ?_) #[true, true, true, true, true, true, true, true, true, true, true, true, true, false, false, false, false, false, false, false, false, false, false, false, false, false, false, false, false] rfl rfl (by kernel_rfl) (fun _ _ _ h => h) (Or.inl ⟨by kernel_rfl, ?_⟩) ?_ ?_
      rotate_left
      ·intro w'
       go_simp
       with_reducible rfl
      rotate_left
      ·simp only [Act.put, List.setIfInBounds_toArray, List.set_cons_zero, List.set_cons_succ, i64_w, i32_w]
       rfl
      refine take_ (i := 13) (N := some 277) (v := ?_) (a' := ?_) #[true, true, true, true, true, true, true, true, true, true, true, true, true, true, false, false, false, false, false, false, false, false, false, false, false, false, false, false, false] rfl rfl (by kernel_rfl) (fun _ _ _ h => h) (Or.inl ⟨by kernel_rfl, ?_⟩) hHeld ?_ ?_
      rotate_left
      ·rintro w' ⟨s0, s1⟩
       go_simp
       with_reducible rfl
      rotate_left
      ·simp only [Act.put, List.setIfInBounds_toArray, List.set_cons_zero, List.set_cons_succ, i64_w, i32_w]
       rfl
      refine pure_ (i := 14) (N := some 278) (v := ?_) (a' := ?_) #[true, true, true, true, true, true, true, true, true, true, true, true, true, true, true, false, false, false, false, false, false, false, false, false, false, false, false, false, false] rfl rfl (by kernel_rfl) (fun _ _ _ h => h) (Or.inl ⟨by kernel_rfl, ?_⟩) ?_ ?_
      rotate_left
      ·intro w'
       go_simp
       with_reducible rfl
      rotate_left
      ·simp only [Act.put, List.setIfInBounds_toArray, List.set_cons_zero, List.set_cons_succ, i64_w, i32_w]
       rfl
      refine pure_ (i := 15) (N := some 279) (v := ?_) (a' := ?_) #[true, true, true, true, true, true, true, true, true, true, true, true, true, true, true, true, false, false, false, false, false, false, false, false, false, false, false, false, false] rfl rfl (by kernel_rfl) (fun _ _ _ h => h) (Or.inl ⟨by kernel_rfl, ?_⟩) ?_ ?_
      rotate_left
      ·intro w'
       go_simp
       with_reducible rfl
      rotate_left
      ·simp only [Act.put, List.setIfInBounds_toArray, List.set_cons_zero, List.set_cons_succ, i64_w, i32_w]
       rfl
      refine pure_ (i := 16) (N := some 280) (v := ?_) (a' := ?_) #[true, true, true, true, true, true, true, true, true, true, true, true, true, true, true, true, true, false, false, false, false, false, false, false, false, false, false, false, false] rfl rfl (by kernel_rfl) (fun _ _ _ h => h) (Or.inl ⟨by kernel_rfl, ?_⟩) ?_ ?_
      rotate_left
      ·intro w'
       go_simp
       with_reducible rfl
      rotate_left
      ·simp only [Act.put, List.setIfInBounds_toArray, List.set_cons_zero, List.set_cons_succ, i64_w, i32_w]
       rfl
      refine pure_ (i := 17) (N := some 281) (v := ?_) (a' := ?_) #[true, true, true, true, true, true, true, true, true, true, true, true, true, true, true, true, true, true, false, false, false, false, false, false, false, false, false, false, false] rfl rfl (by kernel_rfl) (fun _ _ _ h => h) (Or.inl ⟨by kernel_rfl, ?_⟩) ?_ ?_
      rotate_left
      ·intro w'
       go_simp
       with_reducible rfl
      rotate_left
      ·simp only [Act.put, List.setIfInBounds_toArray, List.set_cons_zero, List.set_cons_succ, i64_w, i32_w]
       rfl
      refine pure_ (i := 18) (N := some 282) (v := ?_) (a' := ?_) #[true, true, true, true, true, true, true, true, true, true, true, true, true, true, true, true, true, true, true, false, false, false, false, false, false, false, false, false, false] rfl rfl (by kernel_rfl) (fun _ _ _ h => h) (Or.inl ⟨by kernel_rfl, ?_⟩) ?_ ?_
      rotate_left
      ·intro w'
       go_simp
       with_reducible rfl
      rotate_left
      ·simp only [Act.put, List.setIfInBounds_toArray, List.set_cons_zero, List.set_cons_succ, i64_w, i32_w]
       rfl
      refine pure_ (i := 19) (N := some 283) (v := ?_) (a' := ?_) #[true, true, true, true, true, true, true, true, true, true, true, true, true, true, true, true, true, true, true, true, false, false, false, false, false, false, false, false, false] rfl rfl (by kernel_rfl) (fun _ _ _ h => h) (Or.inl ⟨by kernel_rfl, ?_⟩) ?_ ?_
      rotate_left
      ·intro w'
       go_simp
       with_reducible rfl
      rotate_left
      ·simp only [Act.put, List.setIfInBounds_toArray, List.set_cons_zero, List.set_cons_succ, i64_w, i32_w]
       rfl
      refine pure_ (i := 20) (N := some 284) (v := undef) (a' := ?_) #[true, true, true, true, true, true, true, true, true, true, true, true, true, true, true, true, true, true, true, true, true, false, false, false, false, false, false, false, false] rfl rfl (by kernel_rfl) (fun _ _ _ h => h) (Or.inr ⟨by kernel_rfl, rfl⟩) ?_ ?_
      rotate_left
      ·simp only [Act.put, List.setIfInBounds_toArray, List.set_cons_zero, List.set_cons_succ, i64_w, i32_w]
       rfl
      refine pure_ (i := 21) (N := some 285) (v := undef) (a' := ?_) #[true, true, true, true, true, true, true, true, true, true, true, true, true, true, true, true, true, true, true, true, true, true, false, false, false, false, false, false, false] rfl rfl (by kernel_rfl) (fun _ _ _ h => h) (Or.inr ⟨by kernel_rfl, rfl⟩) ?_ ?_
      rotate_left
      ·simp only [Act.put, List.setIfInBounds_toArray, List.set_cons_zero, List.set_cons_succ, i64_w, i32_w]
       rfl
      refine pure_ (i := 22) (N := some 286) (v := undef) (a' := ?_) #[true, true, true, true, true, true, true, true, true, true, true, true, true, true, true, true, true, true, true, true, true, true, true, false, false, false, false, false, false] rfl rfl (by kernel_rfl) (fun _ _ _ h => h) (Or.inr ⟨by kernel_rfl, rfl⟩) ?_ ?_
      rotate_left
      ·simp only [Act.put, List.setIfInBounds_toArray, List.set_cons_zero, List.set_cons_succ, i64_w, i32_w]
       rfl
      refine pure_ (i := 23) (N := some 287) (v := undef) (a' := ?_) #[true, true, true, true, true, true, true, true, true, true, true, true, true, true, true, true, true, true, true, true, true, true, true, true, false, false, false, false, false] rfl rfl (by kernel_rfl) (fun _ _ _ h => h) (Or.inr ⟨by kernel_rfl, rfl⟩) ?_ ?_
      rotate_left
      ·simp only [Act.put, List.setIfInBounds_toArray, List.set_cons_zero, List.set_cons_succ, i64_w, i32_w]
       rfl
      refine pure_ (i := 24) (N := some 288) (v := undef) (a' := ?_) #[true, true, true, true, true, true, true, true, true, true, true, true, true, true, true, true, true, true, true, true, true, true, true, true, true, false, false, false, false] rfl rfl (by kernel_rfl) (fun _ _ _ h => h) (Or.inr ⟨by kernel_rfl, rfl⟩) ?_ ?_
      rotate_left
      ·simp only [Act.put, List.setIfInBounds_toArray, List.set_cons_zero, List.set_cons_succ, i64_w, i32_w]
       rfl
      refine pure_ (i := 25) (N := some 289) (v := undef) (a' := ?_) #[true, true, true, true, true, true, true, true, true, true, true, true, true, true, true, true, true, true, true, true, true, true, true, true, true, true, false, false, false] rfl rfl (by kernel_rfl) (fun _ _ _ h => h) (Or.inr ⟨by kernel_rfl, rfl⟩) ?_ ?_
      rotate_left
      ·simp only [Act.put, List.setIfInBounds_toArray, List.set_cons_zero, List.set_cons_succ, i64_w, i32_w]
       rfl
      refine pure_ (i := 26) (N := some 290) (v := undef) (a' := ?_) #[true, true, true, true, true, true, true, true, true, true, true, true, true, true, true, true, true, true, true, true, true, true, true, true, true, true, true, false, false] rfl rfl (by kernel_rfl) (fun _ _ _ h => h) (Or.inr ⟨by kernel_rfl, rfl⟩) ?_ ?_
      rotate_left
      ·simp only [Act.put, List.setIfInBounds_toArray, List.set_cons_zero, List.set_cons_succ, i64_w, i32_w]
       rfl
      refine pure_ (i := 27) (N := some 291) (v := ?_) (a' := ?_) #[true, true, true, true, true, true, true, true, true, true, true, true, true, true, true, true, true, true, true, true, true, true, true, true, true, true, true, true, false] rfl rfl (by kernel_rfl) (fun _ _ _ h => h) (Or.inl ⟨by kernel_rfl, ?_⟩) ?_ ?_
      rotate_left
      ·intro w'
       go_simp
       with_reducible rfl
      rotate_left
      ·simp only [Act.put, List.setIfInBounds_toArray, List.set_cons_zero, List.set_cons_succ, i64_w, i32_w]
       rfl
      refine pure_ (i := 28) (N := some 292) (v := ?_) (a' := ?_) #[true, true, true, true, true, true, true, true, true, true, true, true, true, true, true, true, true, true, true, true, true, true, true, true, true, true, true, true, true] rfl rfl (by kernel_rfl) (fun _ _ _ h => h) (Or.inl ⟨by kernel_rfl, ?_⟩) ?_ ?_
      rotate_left
      ·intro w'
       go_simp
       with_reducible rfl
      rotate_left
      ·simp only [Act.put, List.setIfInBounds_toArray, List.set_cons_zero, List.set_cons_succ, i64_w, i32_w]
       rfl
      refine done_ (by kernel_rfl) ?_
      go_step
      go_step
      go_meet
      case rel => exact ⟨rfl, ⟨below_drew1 (Below.refl _ _)⟩⟩
    case rest =>
     obtain ⟨rfl, HBc⟩ := hcut; clear hcr ci cil hc0 hc0' hc1
     go_wp2
     clear Y1 Y2 Y3 Y4 Y5 Y6 Y7 Y8 Y9 Y10 Y11 X9 X10 HHZ K3 hx1
     revert x_ x__1 w44 A_bk c_bk k A_c c_c l0 A_m c_m l1 w l s t p ok9 n2 cnt ok11 q ii jj entry ok13 parts value plus table num den seven c_l A_pa c_pa A_pa2 c_pa2 c_tb A_tb2
     revert c_tb2 back cn i wB gB ad1 c_r row adr adl z wc u4 u33 u34 u35 u36 u119 u120 u121 u122 u123 u124 u125 u126 u127 u128 u129 u130 u131 u132 u133 u134 u135 u136 u137 u138 u139 u140
     revert u141 u142 u143 u144 u145 u146 u147 u148 u149 u150 u151 u152 u153 u154 u155 u156 u157 u158 u159 u160 u161 u162 u163 u164 u165 u166 u167 u168 u169 u170 u171 u172 u173 u174 u175 u176 u177 u178 u179 u180
     revert u181 u182 u183 u184 u185 u186 u187 u188 u189 u190 u191 u192 u193 u194 u195 u196 u197 u198 u199 u200 u201 u202 u203 u204 u205 u206 u207 u208 u209 u210 u211 u212 u260 u261 u262 u263 u264 u265 u266 u267
     revert u268 u269 u270 u271 u272 u273 u274 u275 u276 u277 u278 u279 u280 u281 u282 u283 u284 u285 u286 u287 u288 u289 u290 u291 u292 u293 u294 u295 u296 u297 u298 u299 u300 u301 u302 u303 u304 u305 u306 u307
     revert u308 u309 u310 u311 u312 u313 u314 u315 u316 u317 u318 u319 u320 u321 u322 u323 u324 u325 u326 u327 u328 u329 u330 u331 u332 u333 u334 u335 u336 u337 u338 u339
     repeat (rename_i x_; revert x_)
     exact HG_p2.out
   ·have cd := laws_FnContinuantsSplit.a0 ci
    go_wp2
    revert x_ x__1 w44 i wB gB k A_c c_c l0 A_m c_m l1 w l parts value plus table num den seven s t p ok9 n2 cnt ok11 q ii jj entry ok13 A_l c_l A_pa c_pa A_pa2 c_pa2
    revert A_tb c_tb A_tb2 c_tb2 back cn A_bk c_bk u119 u120 u121 u122 u123 u124 u125 u126 u127 u128 u129 u130 u131 u132 u133 u134 u135 u136 u137 u138 u139 u140 u141 u142 u143 u144 u145 u146 u147 u148 u149 u150
    revert u151 u152 u153 u154 u155 u156 u157 u158 u159 u160 u161 u162 u163 u164 u165 u166 u167 u168 u169 u170 u171 u172 u173 u174 u175 u176 u177 u178 u179 u180 u181 u182 u183 u184 u185 u186 u187 u188 u189 u190
    revert u191 u192 u193 u194 u195 u196 u197 u198 u199 u200 u201 u202 u203 u204 u205 u206 u207 u208 u209 u210 u211 u212 u4 u33 u34 u35 u36 u260 u261 u262 u263 u264 u265 u266 u267 u268 u269 u270 u271 u272
    revert u273 u274 u275 u276 u277 u278 u279 u280 u281 u282 u283 u284 u285 u286 u287 u288 u289 u290 u291 u292 u293 u294 u295 u296 u297 u298 u299 u300 u301 u302 u303 u304 u305 u306 u307 u308 u309 u310 u311 u312
    revert u313 u314 u315 u316 u317 u318 u319 u320 u321 u322 u323 u324 u325 u326 u327 u328 u329 u330 u331 u332 u333 u334 u335 u336 u337 u338 u339
    repeat (rename_i x_; revert x_)
    exact HG_p3.out
set_option maxHeartbeats 80000000 in
set_option maxRecDepth 100000 in
theorem laws_FnContinuantsSplit.p2 : laws_FnContinuantsSplit.p1.1 := by
 unhygienic (intro x_; intros)
 go_loopg [35] (row.length + 1) (fun kq v35 w' => ∃ j : Nat, v35 = .int .i64 (j : Int) ∧ Aside0 (1 ≤ j ∧ j ≤ row.length ∧ kq + j = row.length + 2) ∧ Aside0 (Below wB.heap.size wB w'))
 case atStart => exact ⟨1, rfl, ⟨⟨Nat.le_refl _, HR1.out, rfl⟩⟩, ⟨HBc.out⟩⟩
 case round =>
  obtain ⟨j, rfl, HJ, HBj⟩ := hrel
  by_cases cn1 : i + 1 < l.length
  ·obtain ⟨hn0, hn1, hn2, hn3⟩ := laws_FnContinuantsSplit.i1 cn1
   by_cases cj : j < row.length
   ·obtain ⟨hj0, hj1, cdj⟩ := laws_FnContinuantsSplit.a3 cj
    obtain ⟨hm0, hm1, hm2, hj4, hm3⟩ := laws_FnContinuantsSplit.j1 HJ.out.1 cj HRL.out; have HMj := Aside0.mk (HMr.out.mv HBj.out); have hcrj := Kd.C_below HCR.out HBj.out; have kx := (X8.out (i + 1) cn1).1; rw [laws_FnContinuantsSplit.a2] at kx
    obtain ⟨adt, A_s, c_s, e3, hx3, hls, hcs⟩ := laws_FnContinuantsSplit.at_row (HMj.out.now.2.2.1) ((i : Int) + 1) hn1 (by have := X6.out; omega)
    have e4 := Option.some.inj e3; rw [← e4] at hx3
    clear e4 e3; have hd := K4.out j HJ.out.1 cj; obtain ⟨nx, hnx⟩ : ∃ nx, laws_FnContinuantsSplit.row table ((i : Int) + 1) = nx := ⟨_, rfl⟩; rw [hnx] at hx3 hls hcs kx hd
    have hlen := laws_FnContinuantsSplit.q3 K1.out kx cn1; rw [hn3] at hx3
    obtain ⟨ads, es, hy2⟩ := Kd.at_int hcs ((j : Int) - 1) hm1 (laws_FnContinuantsSplit.j2 HJ.out.1 (hlen ▸ cj))
    cases es
    obtain ⟨ad5, e5, hy1⟩ := Kd.at_int hcrj ((j : Int) - 1) hm1 hm2; rw [← Option.some.inj e5] at hy1
    clear e5; obtain ⟨ad6, e6, hy3⟩ := Kd.at_int hcrj (j : Int) hj0 hj1; rw [← Option.some.inj e6] at hy3
    clear e6; rw [hm3] at hy1 hy2
    rw [Int.toNat_natCast] at hy3
    obtain ⟨a, ha⟩ : ∃ a, rd row ((j : Int) - 1) = a := ⟨_, rfl⟩; obtain ⟨b, hb⟩ : ∃ b, rd nx ((j : Int) - 1) = b := ⟨_, rfl⟩; obtain ⟨c, hc⟩ : ∃ c, rd row (j : Int) = c := ⟨_, rfl⟩; rw [ha] at hy1 hd
    rw [hb] at hy2 hd
    rw [hc] at hy3 hd
    obtain ⟨jz, hjz⟩ : ∃ jz, (j : Int) - 1 = jz := ⟨_, rfl⟩; have hm0' := hm0.trans hjz; rw [hjz] at hm1 hm2 hm3
    have hm4 := laws_FnContinuantsSplit.j2 HJ.out.1 (hlen ▸ cj); rw [hjz] at hm4
    obtain ⟨j1, hj1_⟩ : ∃ j1, j - 1 = j1 := ⟨_, rfl⟩; rw [hj1_] at hm3 hy1 hy2
    obtain ⟨i1, hi1_⟩ : ∃ i1, i + 1 = i1 := ⟨_, rfl⟩; rw [hi1_] at hx3
    obtain ⟨iz, hiz⟩ : ∃ iz, (i : Int) + 1 = iz := ⟨_, rfl⟩; have hiw : wrap64 ((i : Int) + 1) = iz := hi4.trans hiz; have hi6 : iz.toNat = i1 := by rw [← hiz, ← hi1_]; exact hn3
    have hn0' : decide (iz < (l.length : Int)) = true := by rw [← hiz]; exact hn0
    have hn1' := eq_true (show 0 ≤ iz by rw [← hiz]; exact hn1)
    have hn2' := eq_true (show iz < (table.length : Int) by rw [← hiz, X6.out]; exact hn2)
    have HI4 := Aside0.mk hi4; have hg2 := laws_FnContinuantsSplit.g1 HJ.out cj; have hj2 := HJ.out.1; have NXL := Aside0.mk (laws_FnContinuantsSplit.q1 hlen HRL.out); have HCS := Aside0.mk hcs; replace hj0 := eq_true hj0; replace hj1 := eq_true hj1; replace hm1 := eq_true hm1; replace hm2 := eq_true hm2; replace hm4 := eq_true hm4
    by_cases c1 : j = 1
    ·have cg := laws_FnContinuantsSplit.q2 c1
     rw [if_pos c1, Int.mul_one] at hd
     clear hn0 hn1 hn2 hn3 kx hls hcs hcrj hnx ha hb hc hjz hj1_ hi1_ hiz cj cn1 c1 hj2 hlen hi4 hm0
     go_wp2
     refine start_ (n := 23) (S := fun w' => w'.cell? (adr.add j1) = some (.int .i64 a) ∧ w'.cell? (ad1.add i1) = some (.slice (some ads) nx.length c_s) ∧ w'.cell? (ads.add j1) = some (.int .i64 b) ∧ w'.cell? (adr.add j) = some (.int .i64 c)) (ds := []) #[false, false, false, false, false, false, false, false, false, false, false, false, false, false, false, false, false, false, false, false, false, false, false] (by kernel_rfl) rfl rfl ⟨hy1, hx3, hy2, hy3⟩ (fun hHeld => ?_)
     refine pure_ (i := 0) (N := some 316) (v := ?_) (a' := ?_) #[true, false, false, false, false, false, false, false, false, false, false, false, false, false, false, false, false, false, false, false, false, false, false] rfl rfl (by kernel_rfl) (fun _ _ _ h => h) (Or.inl ⟨by kernel_rfl, ?_⟩) ?_ ?_
     rotate_left
     ·intro w'
      go_simp
      with_reducible rfl
     rotate_left
     ·simp only [Act.put, List.setIfInBounds_toArray, List.set_cons_zero, List.set_cons_succ, i64_w, i32_w]
      rfl
     refine pure_ (i := 1) (N := some 317) (v := ?_) (a' := ?_) #[true, true, false, false, false, false, false, false, false, false, false, false, false, false, false, false, false, false, false, false, false, false, false] rfl rfl (by kernel_rfl) (fun _ _ _ h => h) (Or.inl ⟨by kernel_rfl, ?_⟩) ?_ ?_
     rotate_left
     ·intro w'
      go_simp
      with_reducible rfl
     rotate_left
     ·simp only [Act.put, List.setIfInBounds_toArray, List.set_cons_zero, List.set_cons_succ, i64_w, i32_w]
      rfl
     refine pure_ (i := 2) (N := some 318) (v := ?_) (a' := ?_) #[true, true, true, false, false, false, false, false, false, false, false, false, false, false, false, false, false, false, false, false, false, false, false] rfl rfl (by kernel_rfl) (fun _ _ _ h => h) (Or.inl ⟨by kernel_rfl, ?_⟩) ?_ ?_
     rotate_left
     ·intro w'
      go_simp
      with_reducible rfl
     rotate_left
     ·simp only [Act.put, List.setIfInBounds_toArray, List.set_cons_zero, List.set_cons_succ, i64_w, i32_w]
      rfl
     refine pure_ (i := 3) (N := some 319) (v := ?_) (a' := ?_) #[true, true, true, true, false, false, false, false, false, false, false, false, false, false, false, false, false, false, false, false, false, false, false] rfl rfl (by kernel_rfl) (fun _ _ _ h => h) (Or.inl ⟨by kernel_rfl, ?_⟩) ?_ ?_
     rotate_left
     ·intro w'
      go_simp
      with_reducible rfl
     rotate_left
     ·simp only [Act.put, List.setIfInBounds_toArray, List.set_cons_zero, List.set_cons_succ, i64_w, i32_w]
      rfl
     refine take_ (i := 4) (N := some 320) (v := ?_) (a' := ?_) #[true, true, true, true, true, false, false, false, false, false, false, false, false, false, false, false, false, false, false, false, false, false, false] rfl rfl (by kernel_rfl) (fun _ _ _ h => h) (Or.inl ⟨by kernel_rfl, ?_⟩) hHeld ?_ ?_
     rotate_left
     ·rintro w' ⟨s0, s1, s2, s3⟩
      go_simp
      with_reducible rfl
     rotate_left
     ·simp only [Act.put, List.setIfInBounds_toArray, List.set_cons_zero, List.set_cons_succ, i64_w, i32_w]
      rfl
     refine pure_ (i := 5) (N := some 321) (v := ?_) (a' := ?_) #[true, true, true, true, true, true, false, false, false, false, false, false, false, false, false, false, false, false, false, false, false, false, false] rfl rfl (by kernel_rfl) (fun _ _ _ h => h) (Or.inl ⟨by kernel_rfl, ?_⟩) ?_ ?_
     rotate_left
     ·intro w'
      go_simp
      with_reducible rfl
     rotate_left
     ·simp only [Act.put, List.setIfInBounds_toArray, List.set_cons_zero, List.set_cons_succ, i64_w, i32_w]
      rfl
     refine pure_ (i := 6) (N := some 322) (v := ?_) (a' := ?_) #[true, true, true, true, true, true, true, false, false, false, false, false, false, false, false, false, false, false, false, false, false, false, false] rfl rfl (by kernel_rfl) (fun _ _ _ h => h) (Or.inl ⟨by kernel_rfl, ?_⟩) ?_ ?_
     rotate_left
     ·intro w'
      go_simp
      with_reducible rfl
     rotate_left
     ·simp only [Act.put, List.setIfInBounds_toArray, List.set_cons_zero, List.set_cons_succ, i64_w, i32_w]
      rfl
     refine pure_ (i := 7) (N := some 323) (v := ?_) (a' := ?_) #[true, true, true, true, true, true, true, true, false, false, false, false, false, false, false, false, false, false, false, false, false, false, false] rfl rfl (by kernel_rfl) (fun _ _ _ h => h) (Or.inl ⟨by kernel_rfl, ?_⟩) ?_ ?_
     rotate_left
     ·intro w'
      go_simp
      with_reducible rfl
     rotate_left
     ·simp only [Act.put, List.setIfInBounds_toArray, List.set_cons_zero, List.set_cons_succ, i64_w, i32_w]
      rfl
     refine pure_ (i := 8) (N := some 324) (v := ?_) (a' := ?_) #[true, true, true, true, true, true, true, true, true, false, false, false, false, false, false, false, false, false, false, false, false, false, false] rfl rfl (by kernel_rfl) (fun _ _ _ h => h) (Or.inl ⟨by kernel_rfl, ?_⟩) ?_ ?_
     rotate_left
     ·intro w'
      go_simp
      with_reducible rfl
     rotate_left
     ·simp only [Act.put, List.setIfInBounds_toArray, List.set_cons_zero, List.set_cons_succ, i64_w, i32_w]
      rfl
     refine take_ (i := 9) (N := some 325) (v := ?_) (a' := ?_) #[true, true, true, true, true, true, true, true, true, true, false, false, false, false, false, false, false, false, false, false, false, false, false] rfl rfl (by kernel_rfl) (fun _ _ _ h => h) (Or.inl ⟨by kernel_rfl, ?_⟩) hHeld ?_ ?_
     rotate_left
     ·rintro w' ⟨s0, s1, s2, s3⟩
      go_simp
      with_reducible rfl
     rotate_left
     ·simp only [Act.put, List.setIfInBounds_toArray, List.set_cons_zero, List.set_cons_succ, i64_w, i32_w]
      rfl
     refine pure_ (i := 10) (N := some 326) (v := ?_) (a' := ?_) #[true, true, true, true, true, true, true, true, true, true, true, false, false, false, false, false, false, false, false, false, false, false, false] rfl rfl (by kernel_rfl) (fun _ _ _ h => h) (Or.inl ⟨by kernel_rfl, ?_⟩) ?_ ?_
     rotate_left
     ·intro w'
      go_simp
      with_reducible rfl
     rotate_left
     ·simp only [Act.put, List.setIfInBounds_toArray, List.set_cons_zero, List.set_cons_succ, i64_w, i32_w]
      rfl
     refine pure_ (i := 11) (N := some 327) (v := ?_) (a' := ?_) #[true, true, true, true, true, true, true, true, true, true, true, true, false, false, false, false, false, false, false, false, false, false, false] rfl rfl (by kernel_rfl) (fun _ _ _ h => h) (Or.inl ⟨by kernel_rfl, ?_⟩) ?_ ?_
     rotate_left
     ·intro w'
      go_simp
      with_reducible rfl
     rotate_left
     ·simp only [Act.put, List.setIfInBounds_toArray, List.set_cons_zero, List.set_cons_succ, i64_w, i32_w]
      rfl
     refine pure_ (i := 12) (N := some 328) (v := ?_) (a' := ?_) #[true, true, true, true, true, true, true, true, true, true, true, true, true, false, false, false, false, false, false, false, false, false, false] rfl rfl (by kernel_rfl) (fun _ _ _ h => h) (Or.inl ⟨by kernel_rfl, ?_⟩) ?_ ?_
     rotate_left
     ·intro w'
      go_simp
      with_reducible rfl
     rotate_left
     ·simp only [Act.put, List.setIfInBounds_toArray, List.set_cons_zero, List.set_cons_succ, i64_w, i32_w]
      rfl
     refine take_ (i := 13) (N := some 329) (v := ?_) (a' := ?_) #[true, true, true, true, true, true, true, true, true, true, true, true, true, true, false, false, false, false, false, false, false, false, false] rfl rfl (by kernel_rfl) (fun _ _ _ h => h) (Or.inl ⟨by kernel_rfl, ?_⟩) hHeld ?_ ?_
     rotate_left
     ·rintro w' ⟨s0, s1, s2, s3⟩
      go_simp
      with_reducible rfl
     rotate_left
     ·simp only [Act.put, List.setIfInBounds_toArray, List.set_cons_zero, List.set_cons_succ, i64_w, i32_w]
      rfl
     refine pure_ (i := 14) (N := some 330) (v := ?_) (a' := ?_) #[true, true, true, true, true, true, true, true, true, true, true, true, true, true, true, false, false, false, false, false, false, false, false] rfl rfl (by kernel_rfl) (fun _ _ _ h => h) (Or.inl ⟨by kernel_rfl, ?_⟩) ?_ ?_
     rotate_left
     ·intro w'
      go_simp
      with_reducible rfl
     rotate_left
     ·simp only [Act.put, List.setIfInBounds_toArray, List.set_cons_zero, List.set_cons_succ, i64_w, i32_w]
      rfl
     refine pure_ (i := 15) (N := some 331) (v := ?_) (a' := ?_) #[true, true, true, true, true, true, true, true, true, true, true, true, true, true, true, true, false, false, false, false, false, false, false] rfl rfl (by kernel_rfl) (fun _ _ _ h => h) (Or.inl ⟨by kernel_rfl, ?_⟩) ?_ ?_
     rotate_left
     ·intro w'
      go_simp
      with_reducible rfl
     rotate_left
     ·simp only [Act.put, List.setIfInBounds_toArray, List.set_cons_zero, List.set_cons_succ, i64_w, i32_w]
      rfl
     refine pure_ (i := 16) (N := some 332) (v := ?_) (a' := ?_) #[true, true, true, true, true, true, true, true, true, true, true, true, true, true, true, true, true, false, false, false, false, false, false] rfl rfl (by kernel_rfl) (fun _ _ _ h => h) (Or.inl ⟨by kernel_rfl, ?_⟩) ?_ ?_
     rotate_left
     ·intro w'
      go_simp
      with_reducible rfl
     rotate_left
     ·simp only [Act.put, List.setIfInBounds_toArray, List.set_cons_zero, List.set_cons_succ, i64_w, i32_w]
      rfl
     refine pure_ (i := 17) (N := some 333) (v := ?_) (a' := ?_) #[true, true, true, true, true, true, true, true, true, true, true, true, true, true, true, true, true, true, false, false, false, false, false] rfl rfl (by kernel_rfl) (fun _ _ _ h => h) (Or.inl ⟨by kernel_rfl, ?_⟩) ?_ ?_
     rotate_left
     ·intro w'
      go_simp
      with_reducible rfl
     rotate_left
     ·simp only [Act.put, List.setIfInBounds_toArray, List.set_cons_zero, List.set_cons_succ, i64_w, i32_w]
      rfl
     refine take_ (i := 18) (N := some 334) (v := ?_) (a' := ?_) #[true, true, true, true, true, true, true, true, true, true, true, true, true, true, true, true, true, true, true, false, false, false, false] rfl rfl (by kernel_rfl) (fun _ _ _ h => h) (Or.inl ⟨by kernel_rfl, ?_⟩) hHeld ?_ ?_
     rotate_left
     ·rintro w' ⟨s0, s1, s2, s3⟩
      go_simp
      with_reducible rfl
     rotate_left
     ·simp only [Act.put, List.setIfInBounds_toArray, List.set_cons_zero, List.set_cons_succ, i64_w, i32_w]
      rfl
     refine pure_ (i := 19) (N := some 335) (v := ?_) (a' := ?_) #[true, true, true, true, true, true, true, true, true, true, true, true, true, true, true, true, true, true, true, true, false, false, false] rfl rfl (by kernel_rfl) (fun _ _ _ h => h) (Or.inl ⟨by kernel_rfl, ?_⟩) ?_ ?_
     rotate_left
     ·intro w'
      go_simp
      with_reducible rfl
     rotate_left
     ·simp only [Act.put, List.setIfInBounds_toArray, List.set_cons_zero, List.set_cons_succ, i64_w, i32_w]
      rfl
     refine pure_ (i := 20) (N := some 336) (v := ?_) (a' := ?_) #[true, true, true, true, true, true, true, true, true, true, true, true, true, true, true, true, true, true, true, true, true, false, false] rfl rfl (by kernel_rfl) (fun _ _ _ h => h) (Or.inl ⟨by kernel_rfl, ?_⟩) ?_ ?_
     rotate_left
     ·intro w'
      go_simp
      with_reducible rfl
     rotate_left
     ·simp only [Act.put, List.setIfInBounds_toArray, List.set_cons_zero, List.set_cons_succ, i64_w, i32_w]
      rfl
     refine pure_ (i := 21) (N := some 337) (v := ?_) (a' := ?_) #[true, true, true, true, true, true, true, true, true, true, true, true, true, true, true, true, true, true, true, true, true, true, false] rfl rfl (by kernel_rfl) (fun _ _ _ h => h) (Or.inl ⟨by kernel_rfl, ?_⟩) ?_ ?_
     rotate_left
     ·intro w'
      go_simp
      with_reducible rfl
     rotate_left
     ·simp only [Act.put, List.setIfInBounds_toArray, List.set_cons_zero, List.set_cons_succ, i64_w, i32_w]
      rfl
     refine pure_ (i := 22) (N := some 338) (v := ?_) (a' := ?_) #[true, true, true, true, true, true, true, true, true, true, true, true, true, true, true, true, true, true, true, true, true, true, true] rfl rfl (by kernel_rfl) (fun _ _ _ h => h) (Or.inl ⟨by kernel_rfl, ?_⟩) ?_ ?_
     rotate_left
     ·intro w'
      go_simp
      with_reducible rfl
     rotate_left
     ·simp only [Act.put, List.setIfInBounds_toArray, List.set_cons_zero, List.set_cons_succ, i64_w, i32_w]
      rfl
     refine done_ (by kernel_rfl) ?_
     go_wp2
     go_roundg (gk - 1)
     case measure => exact hg2.1
     case rel => exact ⟨j + 1, by rw [laws_FnContinuantsSplit.a2]; first | rfl | rw [hj4], ⟨hg2.2⟩, ⟨below_drew1 HBj.out⟩⟩
    ·obtain ⟨hw1, hw2, hw3, cg, hw4⟩ := laws_FnContinuantsSplit.j3 (Nat.lt_of_le_of_ne HJ.out.1 (Ne.symm c1)) (hlen ▸ cj) NXL.out
     obtain ⟨ad7, e7, hy4⟩ := Kd.at_int HCS.out ((j : Int) - 2) hw2 hw3; rw [← Option.some.inj e7] at hy4
     clear e7; rw [hw4] at hy4
     rw [if_neg c1] at hd
     obtain ⟨d, hd_⟩ : ∃ d, rd nx ((j : Int) - 2) = d := ⟨_, rfl⟩; rw [hd_] at hy4 hd
     obtain ⟨jy, hjy⟩ : ∃ jy, (j : Int) - 2 = jy := ⟨_, rfl⟩; have hw1' := hw1.trans hjy; rw [hjy] at hw2 hw3 hw4
     obtain ⟨j2, hj2_⟩ : ∃ j2, j - 2 = j2 := ⟨_, rfl⟩; rw [hj2_] at hw4 hy4
     replace hw2 := eq_true hw2; replace hw3 := eq_true hw3; clear hn0 hn1 hn2 hn3 kx hls hcs hcrj hnx ha hb hc hjz hj1_ hi1_ hiz cj cn1 c1 hj2 hlen hi4 hd_ hjy hj2_ hw1 hm0
     go_wp2
     refine start_ (n := 23) (S := fun w' => w'.cell? (adr.add j1) = some (.int .i64 a) ∧ w'.cell? (ad1.add i1) = some (.slice (some ads) nx.length c_s) ∧ w'.cell? (ads.add j1) = some (.int .i64 b) ∧ w'.cell? (adr.add j) = some (.int .i64 c)) (ds := []) #[false, false, false, false, false, false, false, false, false, false, false, false, false, false, false, false, false, false, false, false, false, false, false] (by kernel_rfl) rfl rfl ⟨hy1, hx3, hy2, hy3⟩ (fun hHeld => ?_)
     refine pure_ (i := 0) (N := some 316) (v := ?_) (a' := ?_) #[true, false, false, false, false, false, false, false, false, false, false, false, false, false, false, false, false, false, false, false, false, false, false] rfl rfl (by kernel_rfl) (fun _ _ _ h => h) (Or.inl ⟨by kernel_rfl, ?_⟩) ?_ ?_
     rotate_left
     ·intro w'
      go_simp
      with_reducible rfl
     rotate_left
     ·simp only [Act.put, List.setIfInBounds_toArray, List.set_cons_zero, List.set_cons_succ, i64_w, i32_w]
      rfl
     refine pure_ (i := 1) (N := some 317) (v := ?_) (a' := ?_) #[true, true, false, false, false, false, false, false, false, false, false, false, false, false, false, false, false, false, false, false, false, false, false] rfl rfl (by kernel_rfl) (fun _ _ _ h => h) (Or.inl ⟨by kernel_rfl, ?_⟩) ?_ ?_
     rotate_left
     ·intro w'
      go_simp
      with_reducible rfl
     rotate_left
     ·simp only [Act.put, List.setIfInBounds_toArray, List.set_cons_zero, List.set_cons_succ, i64_w, i32_w]
      rfl
     refine pure_ (i := 2) (N := some 318) (v := ?_) (a' := ?_) #[true, true, true, false, false, false, false, false, false, false, false, false, false, false, false, false, false, false, false, false, false, false, false] rfl rfl (by kernel_rfl) (fun _ _ _ h => h) (Or.inl ⟨by kernel_rfl, ?_⟩) ?_ ?_
     rotate_left
     ·intro w'
      go_simp
      with_reducible rfl
     rotate_left
     ·simp only [Act.put, List.setIfInBounds_toArray, List.set_cons_zero, List.set_cons_succ, i64_w, i32_w]
      rfl
     refine pure_ (i := 3) (N := some 319) (v := ?_) (a' := ?_) #[true, true, true, true, false, false, false, false, false, false, false, false, false, false, false, false, false, false, false, false, false, false, false] rfl rfl (by kernel_rfl) (fun _ _ _ h => h) (Or.inl ⟨by kernel_rfl, ?_⟩) ?_ ?_
     rotate_left
     ·intro w'
      go_simp
      with_reducible rfl
     rotate_left
     ·simp only [Act.put, List.setIfInBounds_toArray, List.set_cons_zero, List.set_cons_succ, i64_w, i32_w]
      rfl
     refine take_ (i := 4) (N := some 320) (v := ?_) (a' := ?_) #[true, true, true, true, true, false, false, false, false, false, false, false, false, false, false, false, false, false, false, false, false, false, false] rfl rfl (by kernel_rfl) (fun _ _ _ h => h) (Or.inl ⟨by kernel_rfl, ?_⟩) hHeld ?_ ?_
     rotate_left
     ·rintro w' ⟨s0, s1, s2, s3⟩
      go_simp
      with_reducible rfl
     rotate_left
     ·simp only [Act.put, List.setIfInBounds_toArray, List.set_cons_zero, List.set_cons_succ, i64_w, i32_w]
      rfl
     refine pure_ (i := 5) (N := some 321) (v := ?_) (a' := ?_) #[true, true, true, true, true, true, false, false, false, false, false, false, false, false, false, false, false, false, false, false, false, false, false] rfl rfl (by kernel_rfl) (fun _ _ _ h => h) (Or.inl ⟨by kernel_rfl, ?_⟩) ?_ ?_
     rotate_left
     ·intro w'
      go_simp
      with_reducible rfl
     rotate_left
     ·simp only [Act.put, List.setIfInBounds_toArray, List.set_cons_zero, List.set_cons_succ, i64_w, i32_w]
      rfl
     refine pure_ (i := 6) (N := some 322) (v := ?_) (a' := ?_) #[true, true, true, true, true, true, true, false, false, false, false, false, false, false, false, false, false, false, false, false, false, false, false] rfl rfl (by kernel_rfl) (fun _ _ _ h => h) (Or.inl ⟨by kernel_rfl, ?_⟩) ?_ ?_
     rotate_left
     ·intro w'
      go_simp
      with_reducible rfl
     rotate_left
     ·simp only [Act.put, List.setIfInBounds_toArray, List.set_cons_zero, List.set_cons_succ, i64_w, i32_w]
      rfl
     refine pure_ (i := 7) (N := some 323) (v := ?_) (a' := ?_) #[true, true, true, true, true, true, true, true, false, false, false, false, false, false, false, false, false, false, false, false, false, false, false] rfl rfl (by kernel_rfl) (fun _ _ _ h => h) (Or.inl ⟨by kernel_rfl, ?_⟩) ?_ ?_
     rotate_left
     ·intro w'
      go_simp
      with_reducible rfl
     rotate_left
     ·simp only [Act.put, List.setIfInBounds_toArray, List.set_cons_zero, List.set_cons_succ, i64_w, i32_w]
      rfl
     refine pure_ (i := 8) (N := some 324) (v := ?_) (a' := ?_) #[true, true, true, true, true, true, true, true, true, false, false, false, false, false, false, false, false, false, false, false, false, false, false] rfl rfl (by kernel_rfl) (fun _ _ _ h => h) (Or.inl ⟨by kernel_rfl, ?_⟩) ?_ ?_
     rotate_left
     ·intro w'
      go_simp
      with_reducible rfl
     rotate_left
     ·simp only [Act.put, List.setIfInBounds_toArray, List.set_cons_zero, List.set_cons_succ, i64_w, i32_w]
      rfl
     refine take_ (i := 9) (N := some 325) (v := ?_) (a' := ?_) #[true, true, true, true, true, true, true, true, true, true, false, false, false, false, false, false, false, false, false, false, false, false, false] rfl rfl (by kernel_rfl) (fun _ _ _ h => h) (Or.inl ⟨by kernel_rfl, ?_⟩) hHeld ?_ ?_
     rotate_left
     ·rintro w' ⟨s0, s1, s2, s3⟩
      go_simp
      with_reducible rfl
     rotate_left
     ·simp only [Act.put, List.setIfInBounds_toArray, List.set_cons_zero, List.set_cons_succ, i64_w, i32_w]
      rfl
     refine pure_ (i := 10) (N := some 326) (v := ?_) (a' := ?_) #[true, true, true, true, true, true, true, true, true, true, true, false, false, false, false, false, false, false, false, false, false, false, false] rfl rfl (by kernel_rfl) (fun _ _ _ h => h) (Or.inl ⟨by kernel_rfl, ?_⟩) ?_ ?_
     rotate_left
     ·intro w'
      go_simp
      with_reducible rfl
     rotate_left
     ·simp only [Act.put, List.setIfInBounds_toArray, List.set_cons_zero, List.set_cons_succ, i64_w, i32_w]
      rfl
     refine pure_ (i := 11) (N := some 327) (v := ?_) (a' := ?_) #[true, true, true, true, true, true, true, true, true, true, true, true, false, false, false, false, false, false, false, false, false, false, false] rfl rfl (by kernel_rfl) (fun _ _ _ h => h) (Or.inl ⟨by kernel_rfl, ?_⟩) ?_ ?_
     rotate_left
     ·intro w'
      go_simp
      with_reducible rfl
     rotate_left
     ·simp only [Act.put, List.setIfInBounds_toArray, List.set_cons_zero, List.set_cons_succ, i64_w, i32_w]
      rfl
     refine pure_ (i := 12) (N := some 328) (v := ?_) (a' := ?_) #[true, true, true, true, true, true, true, true, true, true, true, true, true, false, false, false, false, false, false, false, false, false, false] rfl rfl (by kernel_rfl) (fun _ _ _ h => h) (Or.inl ⟨by kernel_rfl, ?_⟩) ?_ ?_
     rotate_left
     ·intro w'
      go_simp
      with_reducible rfl
     rotate_left
     ·simp only [Act.put, List.setIfInBounds_toArray, List.set_cons_zero, List.set_cons_succ, i64_w, i32_w]
      rfl
     refine take_ (i := 13) (N := some 329) (v := ?_) (a' := ?_) #[true, true, true, true, true, true, true, true, true, true, true, true, true, true, false, false, false, false, false, false, false, false, false] rfl rfl (by kernel_rfl) (fun _ _ _ h => h) (Or.inl ⟨by kernel_rfl, ?_⟩) hHeld ?_ ?_
     rotate_left
     ·rintro w' ⟨s0, s1, s2, s3⟩
      go_simp
      with_reducible rfl
     rotate_left
     ·simp only [Act.put, List.setIfInBounds_toArray, List.set_cons_zero, List.set_cons_succ, i64_w, i32_w]
      rfl
     refine pure_ (i := 14) (N := some 330) (v := ?_) (a' := ?_) #[true, true, true, true, true, true, true, true, true, true, true, true, true, true, true, false, false, false, false, false, false, false, false] rfl rfl (by kernel_rfl) (fun _ _ _ h => h) (Or.inl ⟨by kernel_rfl, ?_⟩) ?_ ?_
     rotate_left
     ·intro w'
      go_simp
      with_reducible rfl
     rotate_left
     ·simp only [Act.put, List.setIfInBounds_toArray, List.set_cons_zero, List.set_cons_succ, i64_w, i32_w]
      rfl
     refine pure_ (i := 15) (N := some 331) (v := ?_) (a' := ?_) #[true, true, true, true, true, true, true, true, true, true, true, true, true, true, true, true, false, false, false, false, false, false, false] rfl rfl (by kernel_rfl) (fun _ _ _ h => h) (Or.inl ⟨by kernel_rfl, ?_⟩) ?_ ?_
     rotate_left
     ·intro w'
      go_simp
      with_reducible rfl
     rotate_left
     ·simp only [Act.put, List.setIfInBounds_toArray, List.set_cons_zero, List.set_cons_succ, i64_w, i32_w]
      rfl
     refine pure_ (i := 16) (N := some 332) (v := ?_) (a' := ?_) #[true, true, true, true, true, true, true, true, true, true, true, true, true, true, true, true, true, false, false, false, false, false, false] rfl rfl (by kernel_rfl) (fun _ _ _ h => h) (Or.inl ⟨by kernel_rfl, ?_⟩) ?_ ?_
     rotate_left
     ·intro w'
      go_simp
      with_reducible rfl
     rotate_left
     ·simp only [Act.put, List.setIfInBounds_toArray, List.set_cons_zero, List.set_cons_succ, i64_w, i32_w]
      rfl
     refine pure_ (i := 17) (N := some 333) (v := ?_) (a' := ?_) #[true, true, true, true, true, true, true, true, true, true, true, true, true, true, true, true, true, true, false, false, false, false, false] rfl rfl (by kernel_rfl) (fun _ _ _ h => h) (Or.inl ⟨by kernel_rfl, ?_⟩) ?_ ?_
     rotate_left
     ·intro w'
      go_simp
      with_reducible rfl
     rotate_left
     ·simp only [Act.put, List.setIfInBounds_toArray, List.set_cons_zero, List.set_cons_succ, i64_w, i32_w]
      rfl
     refine take_ (i := 18) (N := some 334) (v := ?_) (a' := ?_) #[true, true, true, true, true, true, true, true, true, true, true, true, true, true, true, true, true, true, true, false, false, false, false] rfl rfl (by kernel_rfl) (fun _ _ _ h => h) (Or.inl ⟨by kernel_rfl, ?_⟩) hHeld ?_ ?_
     rotate_left
     ·rintro w' ⟨s0, s1, s2, s3⟩
      go_simp
      with_reducible rfl
     rotate_left
     ·simp only [Act.put, List.setIfInBounds_toArray, List.set_cons_zero, List.set_cons_succ, i64_w, i32_w]
      rfl
     refine pure_ (i := 19) (N := some 335) (v := ?_) (a' := ?_) #[true, true, true, true, true, true, true, true, true, true, true, true, true, true, true, true, true, true, true, true, false, false, false] rfl rfl (by kernel_rfl) (fun _ _ _ h => h) (Or.inl ⟨by kernel_rfl, ?_⟩) ?_ ?_
     rotate_left
     ·intro w'
      go_simp
      with_reducible rfl
     rotate_left
     ·simp only [Act.put, List.setIfInBounds_toArray, List.set_cons_zero, List.set_cons_succ, i64_w, i32_w]
      rfl
     refine pure_ (i := 20) (N := some 336) (v := ?_) (a' := ?_) #[true, true, true, true, true, true, true, true, true, true, true, true, true, true, true, true, true, true, true, true, true, false, false] rfl rfl (by kernel_rfl) (fun _ _ _ h => h) (Or.inl ⟨by kernel_rfl, ?_⟩) ?_ ?_
     rotate_left
     ·intro w'
      go_simp
      with_reducible rfl
     rotate_left
     ·simp only [Act.put, List.setIfInBounds_toArray, List.set_cons_zero, List.set_cons_succ, i64_w, i32_w]
      rfl
     refine pure_ (i := 21) (N := some 337) (v := ?_) (a' := ?_) #[true, true, true, true, true, true, true, true, true, true, true, true, true, true, true, true, true, true, true, true, true, true, false] rfl rfl (by kernel_rfl) (fun _ _ _ h => h) (Or.inl ⟨by kernel_rfl, ?_⟩) ?_ ?_
     rotate_left
     ·intro w'
      go_simp
      with_reducible rfl
     rotate_left
     ·simp only [Act.put, List.setIfInBounds_toArray, List.set_cons_zero, List.set_cons_succ, i64_w, i32_w]
      rfl
     refine pure_ (i := 22) (N := some 338) (v := ?_) (a' := ?_) #[true, true, true, true, true, true, true, true, true, true, true, true, true, true, true, true, true, true, true, true, true, true, true] rfl rfl (by kernel_rfl) (fun _ _ _ h => h) (Or.inl ⟨by kernel_rfl, ?_⟩) ?_ ?_
     rotate_left
     ·intro w'
      go_simp
      with_reducible rfl
     rotate_left
     ·simp only [Act.put, List.setIfInBounds_toArray, List.set_cons_zero, List.set_cons_succ, i64_w, i32_w]
      rfl
     refine done_ (by kernel_rfl) ?_
     go_wp2
     go_roundg (gk - 1)
     case measure => exact hg2.1
     case rel => exact ⟨j + 1, by rw [laws_FnContinuantsSplit.a2]; first | rfl | rw [hj4], ⟨hg2.2⟩, ⟨below_drew1 HBj.out⟩⟩
   ·have cdj := laws_FnContinuantsSplit.a0 cj
    go_wp2
    go_roundg (gB - 1)
    case measure => exact hg1.1
    case rel => exact ⟨i + 1, by rw [laws_FnContinuantsSplit.a2]; first | rfl | rw [hi4], ⟨hg1.2⟩, ⟨below_step HBr.out HBj.out⟩⟩
  ·have hn0 := laws_FnContinuantsSplit.i0 cn1
   go_wp2
   go_roundg (gB - 1)
   case measure => exact hg1.1
   case rel => exact ⟨i + 1, by rw [laws_FnContinuantsSplit.a2]; first | rfl | rw [hi4], ⟨hg1.2⟩, ⟨below_step HBr.out HBj.out⟩⟩
set_option maxHeartbeats 80000000 in
set_option maxRecDepth 100000 in
theorem laws_FnContinuantsSplit.p3 : laws_FnContinuantsSplit.p1.2.1 := by
 unhygienic (intro x_; intros)
 have HMb := Aside0.mk (HM44.out.mv HBr.out); have HBb := Aside0.mk (below_step HB44.out HBr.out); clear HMr HBr HI HM44 HB44
 go_loopg [37] (l.length + 1) (fun kq v37 w' => ∃ tt : Nat, v37 = .int .i64 (tt : Int) ∧ Aside0 (1 ≤ tt ∧ kq + tt = l.length + 2) ∧ Aside0 (Below wB.heap.size wB w'))
 case atStart => exact ⟨1, rfl, ⟨⟨Nat.le_refl _, rfl⟩⟩, ⟨Below.refl _ _⟩⟩
 case round =>
  obtain ⟨tt, rfl, HT, HBt⟩ := hrel
  by_cases ct : tt < l.length
  ·obtain ⟨hi0, hi1, cdt⟩ := laws_FnContinuantsSplit.a3 ct
   obtain ⟨p0, p1, p2, p3, hsp, hval⟩ := X9.out tt HT.out.1 ct; obtain ⟨pl, hpl⟩ : ∃ pl, pl = [p0, p1, p2, p3] := ⟨_, rfl⟩; rw [← hpl] at hsp
   have HPL := Aside0.mk hpl; have HMt := Aside0.mk (HMb.out.mv HBt.out); have HCON := Aside0.mk (impl_SplitContinuant.calls k A_l c_l l (tt : Int) pl true wr (HMt.out.now.2.2.2.2.2.1) HL_l.out hsp); have hi4 := laws_FnContinuantsSplit.a4 ct (Nat.le_trans X7.out (by decide))
   have hg1 := laws_FnContinuantsSplit.h1 HT.out ct; have f4 : ((pl.length : Int) != 4) = false := by rw [hpl]; rfl
   have hq0 : (0 < pl.length) = True := eq_true (by rw [hpl]; exact Nat.succ_pos _)
   have hq1 : ((1 : Int) < (pl.length : Int)) = True := eq_true (by rw [hpl]; show (1 : Int) < 4; omega)
   have hq2 : ((2 : Int) < (pl.length : Int)) = True := eq_true (by rw [hpl]; show (2 : Int) < 4; omega)
   have hq3 : ((3 : Int) < (pl.length : Int)) = True := eq_true (by rw [hpl]; show (3 : Int) < 4; omega)
   replace hi0 := eq_true hi0; replace hi1 := eq_true hi1; clear hpl hsp ct
   go_wp2_with (go_at_call 23; (with_reducible refine HCON.out.mono ?_); rintro e wk ⟨v_, rfl, ho, hb⟩; obtain ⟨A_q, c_q, e_, hl_, hc_⟩ := Kd.R_reads ho; subst e_; have HBk := Aside0.mk hb; have HCQ := Aside0.mk hc_; clear ho hb hc_ hl_)
   have hpl4 : pl.length = 4 := by rw [HPL.out]; rfl
   obtain ⟨adq, eq_, hc0⟩ := Kd.at_int HCQ.out 0 (Int.le_refl _) (by rw [hpl4]; decide)
   cases eq_
   obtain ⟨ad_, eq_, hc1⟩ := Kd.at_int HCQ.out 1 (by decide) (by rw [hpl4]; decide)
   cases eq_
   obtain ⟨ad_, eq_, hc2⟩ := Kd.at_int HCQ.out 2 (by decide) (by rw [hpl4]; decide)
   cases eq_
   obtain ⟨ad_, eq_, hc3⟩ := Kd.at_int HCQ.out 3 (by decide) (by rw [hpl4]; decide)
   cases eq_
   rw [show rd pl 0 = p0 from by rw [HPL.out]; rfl, show adq.add (0 : Int).toNat = adq from by cases adq; rfl] at hc0
   rw [show rd pl 1 = p1 from by rw [HPL.out]; rfl] at hc1
   have hz1 : wk.cell? ⟨adq.block, adq.off + 1, none⟩ = some (.int .i64 p1) := hc1; rw [show rd pl 2 = p2 from by rw [HPL.out]; rfl] at hc2
   have hz2 : wk.cell? ⟨adq.block, adq.off + 2, none⟩ = some (.int .i64 p2) := hc2; rw [show rd pl 3 = p3 from by rw [HPL.out]; rfl] at hc3
   have hz3 : wk.cell? ⟨adq.block, adq.off + 3, none⟩ = some (.int .i64 p3) := hc3; clear hpl4; refine start_ (n := 26) (S := fun w' => w'.cell? adq = some (.int .i64 p0) ∧ w'.cell? ⟨adq.block, adq.off + 1, none⟩ = some (.int .i64 p1) ∧ w'.cell? ⟨adq.block, adq.off + 2, none⟩ = some (.int .i64 p2) ∧ w'.cell? ⟨adq.block, adq.off + 3, none⟩ = some (.int .i64 p3)) (ds := []) #[false, false, false, false, false, false, false, false, false, false, false, false, false, false, false, false, false, false, false, false, false, false, false, false, false, false] (by kernel_rfl) rfl rfl ⟨hc0, hz1, hz2, hz3⟩ (fun hHeld => ?_)
   refine pure_ (i := 0) (N := some 351) (v := ?_) (a' := ?_) #[true, false, false, false, false, false, false, false, false, false, false, false, false, false, false, false, false, false, false, false, false, false, false, false, false, false] rfl rfl (by kernel_rfl) (fun _ _ _ h => h) (Or.inl ⟨by kernel_rfl, ?_⟩) ?_ ?_
   rotate_left
   ·intro w'
    go_simp
    with_reducible rfl
   rotate_left
   ·simp only [Act.put, List.setIfInBounds_toArray, List.set_cons_zero, List.set_cons_succ, i64_w, i32_w]
    rfl
   refine pure_ (i := 1) (N := some 352) (v := ?_) (a' := ?_) #[true, true, false, false, false, false, false, false, false, false, false, false, false, false, false, false, false, false, false, false, false, false, false, false, false, false] rfl rfl (by kernel_rfl) (fun _ _ _ h => h) (Or.inl ⟨by kernel_rfl, ?_⟩) ?_ ?_
   rotate_left
   ·intro w'
    go_simp
    with_reducible rfl
   rotate_left
   ·simp only [Act.put, List.setIfInBounds_toArray, List.set_cons_zero, List.set_cons_succ, i64_w, i32_w]
    rfl
   refine pure_ (i := 2) (N := some 353) (v := ?_) (a' := ?_) #[true, true, true, false, false, false, false, false, false, false, false, false, false, false, false, false, false, false, false, false, false, false, false, false, false, false] rfl rfl (by kernel_rfl) (fun _ _ _ h => h) (Or.inl ⟨by kernel_rfl, ?_⟩) ?_ ?_
   rotate_left
   ·intro w'
    go_simp
    with_reducible rfl
   rotate_left
   ·simp only [Act.put, List.setIfInBounds_toArray, List.set_cons_zero, List.set_cons_succ, i64_w, i32_w]
    rfl
   refine pure_ (i := 3) (N := some 354) (v := ?_) (a' := ?_) #[true, true, true, true, false, false, false, false, false, false, false, false, false, false, false, false, false, false, false, false, false, false, false, false, false, false] rfl rfl (by kernel_rfl) (fun _ _ _ h => h) (Or.inl ⟨by kernel_rfl, ?_⟩) ?_ ?_
   rotate_left
   ·intro w'
    go_simp
    with_reducible rfl
   rotate_left
   ·simp only [Act.put, List.setIfInBounds_toArray, List.set_cons_zero, List.set_cons_succ, i64_w, i32_w]
    rfl
   refine pure_ (i := 4) (N := some 355) (v := ?_) (a' := ?_) #[true, true, true, true, true, false, false, false, false, false, false, false, false, false, false, false, false, false, false, false, false, false, false, false, false, false] rfl rfl (by kernel_rfl) (fun _ _ _ h => h) (Or.inl ⟨by kernel_rfl, ?_⟩) ?_ ?_
   rotate_left
   ·intro w'
    go_simp
    with_reducible rfl
   rotate_left
   ·simp only [Act.put, List.setIfInBounds_toArray, List.set_cons_zero, List.set_cons_succ, i64_w, i32_w]
    rfl
   refine pure_ (i := 5) (N := some 356) (v := ?_) (a' := ?_) #[true, true, true, true, true, true, false, false, false, false, false, false, false, false, false, false, false, false, false, false, false, false, false, false, false, false] rfl rfl (by kernel_rfl) (fun _ _ _ h => h) (Or.inl ⟨by kernel_rfl, ?_⟩) ?_ ?_
   rotate_left
   ·intro w'
    go_simp
    with_reducible rfl
   rotate_left
   ·simp only [Act.put, List.setIfInBounds_toArray, List.set_cons_zero, List.set_cons_succ, i64_w, i32_w]
    rfl
   refine pure_ (i := 6) (N := some 357) (v := ?_) (a' := ?_) #[true, true, true, true, true, true, true, false, false, false, false, false, false, false, false, false, false, false, false, false, false, false, false, false, false, false] rfl rfl (by kernel_rfl) (fun _ _ _ h => h) (Or.inl ⟨by kernel_rfl, ?_⟩) ?_ ?_
   rotate_left
   ·intro w'
    go_simp
    with_reducible rfl
   rotate_left
   ·simp only [Act.put, List.setIfInBounds_toArray, List.set_cons_zero, List.set_cons_succ, i64_w, i32_w]
    rfl
   refine pure_ (i := 7) (N := some 358) (v := ?_) (a' := ?_) #[true, true, true, true, true, true, true, true, false, false, false, false, false, false, false, false, false, false, false, false, false, false, false, false, false, false] rfl rfl (by kernel_rfl) (fun _ _ _ h => h) (Or.inl ⟨by kernel_rfl, ?_⟩) ?_ ?_
   rotate_left
   ·intro w'
    go_simp
    with_reducible rfl
   rotate_left
   ·simp only [Act.put, List.setIfInBounds_toArray, List.set_cons_zero, List.set_cons_succ, i64_w, i32_w]
    rfl
   refine pure_ (i := 8) (N := some 359) (v := ?_) (a' := ?_) #[true, true, true, true, true, true, true, true, true, false, false, false, false, false, false, false, false, false, false, false, false, false, false, false, false, false] rfl rfl (by kernel_rfl) (fun _ _ _ h => h) (Or.inl ⟨by kernel_rfl, ?_⟩) ?_ ?_
   rotate_left
   ·intro w'
    go_simp
    with_reducible rfl
   rotate_left
   ·simp only [Act.put, List.setIfInBounds_toArray, List.set_cons_zero, List.set_cons_succ, i64_w, i32_w]
    rfl
   refine pure_ (i := 9) (N := some 360) (v := ?_) (a' := ?_) #[true, true, true, true, true, true, true, true, true, true, false, false, false, false, false, false, false, false, false, false, false, false, false, false, false, false] rfl rfl (by kernel_rfl) (fun _ _ _ h => h) (Or.inl ⟨by kernel_rfl, ?_⟩) ?_ ?_
   rotate_left
   ·intro w'
    go_simp
    with_reducible rfl
   rotate_left
   ·simp only [Act.put, List.setIfInBounds_toArray, List.set_cons_zero, List.set_cons_succ, i64_w, i32_w]
    rfl
   refine take_ (i := 10) (N := some 361) (v := ?_) (a' := ?_) #[true, true, true, true, true, true, true, true, true, true, true, false, false, false, false, false, false, false, false, false, false, false, false, false, false, false] rfl rfl (by kernel_rfl) (fun _ _ _ h => h) (Or.inl ⟨by kernel_rfl, ?_⟩) hHeld ?_ ?_
   rotate_left
   ·rintro w' ⟨s0, s1, s2, s3⟩
    go_simp
    with_reducible rfl
   rotate_left
   ·simp only [Act.put, List.setIfInBounds_toArray, List.set_cons_zero, List.set_cons_succ, i64_w, i32_w]
    rfl
   refine pure_ (i := 11) (N := some 362) (v := ?_) (a' := ?_) #[true, true, true, true, true, true, true, true, true, true, true, true, false, false, false, false, false, false, false, false, false, false, false, false, false, false] rfl rfl (by kernel_rfl) (fun _ _ _ h => h) (Or.inl ⟨by kernel_rfl, ?_⟩) ?_ ?_
   rotate_left
   ·intro w'
    go_simp
    with_reducible rfl
   rotate_left
   ·simp only [Act.put, List.setIfInBounds_toArray, List.set_cons_zero, List.set_cons_succ, i64_w, i32_w]
    rfl
   refine pure_ (i := 12) (N := some 363) (v := ?_) (a' := ?_) #[true, true, true, true, true, true, true, true, true, true, true, true, true, false, false, false, false, false, false, false, false, false, false, false, false, false] rfl rfl (by kernel_rfl) (fun _ _ _ h => h) (Or.inl ⟨by kernel_rfl, ?_⟩) ?_ ?_
   rotate_left
   ·intro w'
    go_simp
    with_reducible rfl
   rotate_left
   ·simp only [Act.put, List.setIfInBounds_toArray, List.set_cons_zero, List.set_cons_succ, i64_w, i32_w]
    rfl
   refine take_ (i := 13) (N := some 364) (v := ?_) (a' := ?_) #[true, true, true, true, true, true, true, true, true, true, true, true, true, true, false, false, false, false, false, false, false, false, false, false, false, false] rfl rfl (by kernel_rfl) (fun _ _ _ h => h) (Or.inl ⟨by kernel_rfl, ?_⟩) hHeld ?_ ?_
   rotate_left
   ·rintro w' ⟨s0, s1, s2, s3⟩
    go_simp
    with_reducible rfl
   rotate_left
   ·simp only [Act.put, List.setIfInBounds_toArray, List.set_cons_zero, List.set_cons_succ, i64_w, i32_w]
    rfl
   refine pure_ (i := 14) (N := some 365) (v := ?_) (a' := ?_) #[true, true, true, true, true, true, true, true, true, true, true, true, true, true, true, false, false, false, false, false, false, false, false, false, false, false] rfl rfl (by kernel_rfl) (fun _ _ _ h => h) (Or.inl ⟨by kernel_rfl, ?_⟩) ?_ ?_
   rotate_left
   ·intro w'
    go_simp
    with_reducible rfl
   rotate_left
   ·simp only [Act.put, List.setIfInBounds_toArray, List.set_cons_zero, List.set_cons_succ, i64_w, i32_w]
    rfl
   refine pure_ (i := 15) (N := some 366) (v := ?_) (a' := ?_) #[true, true, true, true, true, true, true, true, true, true, true, true, true, true, true, true, false, false, false, false, false, false, false, false, false, false] rfl rfl (by kernel_rfl) (fun _ _ _ h => h) (Or.inl ⟨by kernel_rfl, ?_⟩) ?_ ?_
   rotate_left
   ·intro w'
    go_simp
    with_reducible rfl
   rotate_left
   ·simp only [Act.put, List.setIfInBounds_toArray, List.set_cons_zero, List.set_cons_succ, i64_w, i32_w]
    rfl
   refine pure_ (i := 16) (N := some 367) (v := ?_) (a' := ?_) #[true, true, true, true, true, true, true, true, true, true, true, true, true, true, true, true, true, false, false, false, false, false, false, false, false, false] rfl rfl (by kernel_rfl) (fun _ _ _ h => h) (Or.inl ⟨by kernel_rfl, ?_⟩) ?_ ?_
   rotate_left
   ·intro w'
    go_simp
    with_reducible rfl
   rotate_left
   ·simp only [Act.put, List.setIfInBounds_toArray, List.set_cons_zero, List.set_cons_succ, i64_w, i32_w]
    rfl
   refine take_ (i := 17) (N := some 368) (v := ?_) (a' := ?_) #[true, true, true, true, true, true, true, true, true, true, true, true, true, true, true, true, true, true, false, false, false, false, false, false, false, false] rfl rfl (by kernel_rfl) (fun _ _ _ h => h) (Or.inl ⟨by kernel_rfl, ?_⟩) hHeld ?_ ?_
   rotate_left
   ·rintro w' ⟨s0, s1, s2, s3⟩
    go_simp
    with_reducible rfl
   rotate_left
   ·simp only [Act.put, List.setIfInBounds_toArray, List.set_cons_zero, List.set_cons_succ, i64_w, i32_w]
    rfl
   refine pure_ (i := 18) (N := some 369) (v := ?_) (a' := ?_) #[true, true, true, true, true, true, true, true, true, true, true, true, true, true, true, true, true, true, true, false, false, false, false, false, false, false] rfl rfl (by kernel_rfl) (fun _ _ _ h => h) (Or.inl ⟨by kernel_rfl, ?_⟩) ?_ ?_
   rotate_left
   ·intro w'
    go_simp
    with_reducible rfl
   rotate_left
   ·simp only [Act.put, List.setIfInBounds_toArray, List.set_cons_zero, List.set_cons_succ, i64_w, i32_w]
    rfl
   refine pure_ (i := 19) (N := some 370) (v := ?_) (a' := ?_) #[true, true, true, true, true, true, true, true, true, true, true, true, true, true, true, true, true, true, true, true, false, false, false, false, false, false] rfl rfl (by kernel_rfl) (fun _ _ _ h => h) (Or.inl ⟨by kernel_rfl, ?_⟩) ?_ ?_
   rotate_left
   ·intro w'
    go_simp
    with_reducible rfl
   rotate_left
   ·simp only [Act.put, List.setIfInBounds_toArray, List.set_cons_zero, List.set_cons_succ, i64_w, i32_w]
    rfl
   refine take_ (i := 20) (N := some 371) (v := ?_) (a' := ?_) #[true, true, true, true, true, true, true, true, true, true, true, true, true, true, true, true, true, true, true, true, true, false, false, false, false, false] rfl rfl (by kernel_rfl) (fun _ _ _ h => h) (Or.inl ⟨by kernel_rfl, ?_⟩) hHeld ?_ ?_
   rotate_left
   ·rintro w' ⟨s0, s1, s2, s3⟩
    go_simp
    with_reducible rfl
   rotate_left
   ·simp only [Act.put, List.setIfInBounds_toArray, List.set_cons_zero, List.set_cons_succ, i64_w, i32_w]
    rfl
   refine pure_ (i := 21) (N := some 372) (v := ?_) (a' := ?_) #[true, true, true, true, true, true, true, true, true, true, true, true, true, true, true, true, true, true, true, true, true, true, false, false, false, false] rfl rfl (by kernel_rfl) (fun _ _ _ h => h) (Or.inl ⟨by kernel_rfl, ?_⟩) ?_ ?_
   rotate_left
   ·intro w'
    go_simp
    with_reducible rfl
   rotate_left
   ·simp only [Act.put, List.setIfInBounds_toArray, List.set_cons_zero, List.set_cons_succ, i64_w, i32_w]
    rfl
   refine pure_ (i := 22) (N := some 373) (v := ?_) (a' := ?_) #[true, true, true, true, true, true, true, true, true, true, true, true, true, true, true, true, true, true, true, true, true, true, true, false, false, false] rfl rfl (by kernel_rfl) (fun _ _ _ h => h) (Or.inl ⟨by kernel_rfl, ?_⟩) ?_ ?_
   rotate_left
   ·intro w'
    go_simp
    with_reducible rfl
   rotate_left
   ·simp only [Act.put, List.setIfInBounds_toArray, List.set_cons_zero, List.set_cons_succ, i64_w, i32_w]
    rfl
   refine pure_ (i := 23) (N := some 374) (v := ?_) (a' := ?_) #[true, true, true, true, true, true, true, true, true, true, true, true, true, true, true, true, true, true, true, true, true, true, true, true, false, false] rfl rfl (by kernel_rfl) (fun _ _ _ h => h) (Or.inl ⟨by kernel_rfl, ?_⟩) ?_ ?_
   rotate_left
   ·intro w'
    go_simp
    with_reducible rfl
   rotate_left
   ·simp only [Act.put, List.setIfInBounds_toArray, List.set_cons_zero, List.set_cons_succ, i64_w, i32_w]
    rfl
   refine pure_ (i := 24) (N := some 375) (v := ?_) (a' := ?_) #[true, true, true, true, true, true, true, true, true, true, true, true, true, true, true, true, true, true, true, true, true, true, true, true, true, false] rfl rfl (by kernel_rfl) (fun _ _ _ h => h) (Or.inl ⟨by kernel_rfl, ?_⟩) ?_ ?_
   rotate_left
   ·intro w'
    go_simp
    with_reducible rfl
   rotate_left
   ·simp only [Act.put, List.setIfInBounds_toArray, List.set_cons_zero, List.set_cons_succ, i64_w, i32_w]
    rfl
   refine pure_ (i := 25) (N := some 376) (v := ?_) (a' := ?_) #[true, true, true, true, true, true, true, true, true, true, true, true, true, true, true, true, true, true, true, true, true, true, true, true, true, true] rfl rfl (by kernel_rfl) (fun _ _ _ h => h) (Or.inl ⟨by kernel_rfl, ?_⟩) ?_ ?_
   rotate_left
   ·intro w'
    go_simp
    with_reducible rfl
   rotate_left
   ·simp only [Act.put, List.setIfInBounds_toArray, List.set_cons_zero, List.set_cons_succ, i64_w, i32_w]
    rfl
   refine done_ (by kernel_rfl) ?_
   go_wp2
   go_roundg (gk - 1)
   case measure => exact hg1.1
   case rel => exact ⟨tt + 1, by rw [laws_FnContinuantsSplit.a2]; first | rfl | rw [hi4], ⟨hg1.2⟩, ⟨below_drew1 (below_step HBt.out HBk.out)⟩⟩
  ·have cdt := laws_FnContinuantsSplit.a0 ct
   obtain ⟨wT, rfl⟩ : ∃ x, x = wr := ⟨_, rfl⟩; have HMt := Aside0.mk (HMb.out.mv HBt.out); have HBu := Aside0.mk (below_step HBb.out HBt.out); clear HMb HBb HBt HT
   cases seven with
   | false =>
    have HCON := Aside0.mk (spec_DrawSplitContinuant.calls k A_m c_m l1 s t wT (HMt.out.now.2.2.2.2.2.2.1) HL_m.out Y1.out)
    go_wp2_with (go_at_call 24; (with_reducible refine HCON.out.mono ?_); rintro e w45 ⟨v_, rfl, ho, hb⟩; obtain ⟨A_s, c_s, e_, hl_s, hc_⟩ := Kd.R_reads ho; subst e_; have HM45 := Aside0.mk (HMt.out.add hb hc_); have HL_s := Aside0.mk hl_s; clear ho hc_ hl_s; have HB45 := Aside0.mk (below_step HBu.out hb); clear hb)
    clear HCON HMt HBu; have HCON := Aside0.mk (impl_SplitContinuant.calls k A_s c_s s t p ok9 w45 (HM45.out.now.1) HL_s.out Y2.out)
    go_wp2_with (go_at_call 23; (with_reducible refine HCON.out.mono ?_); rintro e w46 ⟨v_, rfl, ho, hb⟩; obtain ⟨A_p, c_p, e_, hl_p, hc_⟩ := Kd.R_reads ho; subst e_; have HM46 := Aside0.mk (HM45.out.add hb hc_); have HL_p := Aside0.mk hl_p; clear ho hc_ hl_p; have HB46 := Aside0.mk (below_step HB45.out hb); clear hb)
    clear HCON HM45 HB45; have HCON := Aside0.mk (spec_SplitContinuant.calls k A_s c_s s t p ok9 w46 (HM46.out.now.2.1) HL_s.out Y3.out)
    go_wp2_with (go_at_call 25; (with_reducible refine HCON.out.mono ?_); rintro e w47 ⟨v_, rfl, ho, hb⟩; obtain ⟨A_p2, c_p2, e_, hl_p2, hc_⟩ := Kd.R_reads ho; subst e_; have HM47 := Aside0.mk (HM46.out.add hb hc_); have HL_p2 := Aside0.mk hl_p2; clear ho hc_ hl_p2; have HB47 := Aside0.mk (below_step HB46.out hb); clear hb)
    clear HCON HM46 HB46; have HCON := Aside0.mk (spec_DrawCountTerms.calls A_m c_m l1 n2 w47 (HM47.out.now.2.2.2.2.2.2.2.2.2.1) HL_m.out Y5.out)
    go_wp2_with (go_at_call 26; (with_reducible refine HCON.out.mono ?_); rintro e w48 ⟨rfl, hb⟩; have HM48 := Aside0.mk (HM47.out.mv hb); have HB48 := Aside0.mk (below_step HB47.out hb); clear hb)
    clear HCON HM47 HB47; have HCON := Aside0.mk (impl_CountTerms.calls k n2 cnt ok11 w48 Y6.out)
    go_wp2_with (go_at_call 21; (with_reducible refine HCON.out.mono ?_); rintro e w49 ⟨rfl, hb⟩; have HM49 := Aside0.mk (HM48.out.mv hb); have HB49 := Aside0.mk (below_step HB48.out hb); clear hb)
    clear HCON HM48 HB48; have HCON := Aside0.mk (spec_CountTerms.calls k n2 cnt ok11 w49 Y7.out)
    go_wp2_with (go_at_call 27; (with_reducible refine HCON.out.mono ?_); rintro e w50 ⟨rfl, hb⟩; have HM50 := Aside0.mk (HM49.out.mv hb); have HB50 := Aside0.mk (below_step HB49.out hb); clear hb)
    clear HCON HM49 HB49; have HCON := Aside0.mk (spec_DrawEntryByContinuant.calls k A_m c_m l1 q ii jj w50 (HM50.out.now.2.2.2.2.2.2.2.2.2.1) HL_m.out Y8.out)
    go_wp2_with (go_at_call 28; (with_reducible refine HCON.out.mono ?_); rintro e w51 ⟨v_, rfl, ho, hb⟩; obtain ⟨A_q, c_q, e_, hl_q, hc_⟩ := Kd.Q_reads ho; subst e_; have HM51 := Aside0.mk (HM50.out.add hb hc_); have HL_q := Aside0.mk hl_q; clear ho hc_ hl_q; have HB51 := Aside0.mk (below_step HB50.out hb); clear hb)
    clear HCON HM50 HB50; have HCON := Aside0.mk (impl_EntryByContinuant.calls k A_q c_q q ii jj entry ok13 w51 (HM51.out.now.1) HL_q.out Y9.out)
    go_wp2_with (go_at_call 29; (with_reducible refine HCON.out.mono ?_); rintro e w52 ⟨rfl, hb⟩; have HM52 := Aside0.mk (HM51.out.mv hb); have HB52 := Aside0.mk (below_step HB51.out hb); clear hb)
    clear HCON HM51 HB51; have HCON := Aside0.mk (spec_EntryByContinuant.calls k A_q c_q q ii jj entry ok13 w52 (HM52.out.now.1) HL_q.out Y10.out)
    go_wp2_with (go_at_call 30; (with_reducible refine HCON.out.mono ?_); rintro e w53 ⟨rfl, hb⟩; have HM53 := Aside0.mk (HM52.out.mv hb); have HB53 := Aside0.mk (below_step HB52.out hb); clear hb)
    clear HCON HM52 HB52
    cases ok13 with
    | false =>
     have HCON := Aside0.mk (laws_dSame.calls k A_p c_p p A_p2 c_p2 p true w53 (HM53.out.now.2.2.1) HL_p.out (HM53.out.now.2.1) HL_p2.out Y4.out)
     go_wp2_with (go_at_call 16; (with_reducible refine HCON.out.mono ?_); rintro e w54 ⟨rfl, hd⟩; have hb := Lw.below_of hd; clear hd; have HM54 := Aside0.mk (HM53.out.mv hb); have HB54 := Aside0.mk (below_step HB53.out hb); clear hb)
     clear HCON HM53 HB53
     go_ret
     exact ⟨rfl, HB54.out⟩
    | true =>
     have HCON := Aside0.mk (laws_dSame.calls k A_p c_p p A_p2 c_p2 p true w53 (HM53.out.now.2.2.1) HL_p.out (HM53.out.now.2.1) HL_p2.out Y4.out)
     go_wp2_with (go_at_call 16; (with_reducible refine HCON.out.mono ?_); rintro e w55 ⟨rfl, hd⟩; have hb := Lw.below_of hd; clear hd; have HM55 := Aside0.mk (HM53.out.mv hb); have HB55 := Aside0.mk (below_step HB53.out hb); clear hb)
     clear HCON HM53 HB53; have HCON := Aside0.mk (impl_EntryOf.calls k A_q c_q q ii jj entry true w55 (HM55.out.now.1) HL_q.out (by first | exact Y11.out rfl | exact Y11.out trivial))
     go_wp2_with (go_at_call 31; (with_reducible refine HCON.out.mono ?_); rintro e w56 ⟨rfl, hb⟩; have HM56 := Aside0.mk (HM55.out.mv hb); have HB56 := Aside0.mk (below_step HB55.out hb); clear hb)
     clear HCON HM55 HB55
     go_ret
     exact ⟨rfl, HB56.out⟩
   | true =>
    obtain ⟨rest, r1, r2, r3, r4, r5, r6⟩ := X10.out (by first | exact rfl | exact trivial)
    obtain ⟨i0, hi0, _, hsz, _⟩ := info_parts info3; obtain ⟨A_rs, hcut0, hA, hC⟩ := print_drop_of (P := Tryz.prog) (Value.int .i64) 0 24 3 .i64 Tryz.underlying24 hi0 hsz A_l c_l l 1 (by decide) (by omega) HL_l.out
    have HC1 := Kd.C_of_reads (h1 := fun _ => rfl) (hA _ (Kd.reads_of_C (HMt.out.now.2.2.2.2.2.1)))
    obtain ⟨rs, hrs⟩ : ∃ rs, l.drop (1 : Int).toNat = rs := ⟨_, rfl⟩; rw [hrs] at hcut0 HC1 hC
    obtain ⟨c_rs, hc_rs⟩ : ∃ c, c = c_l - (1 : Int).toNat := ⟨_, rfl⟩; rw [← hc_rs] at hcut0 hC
    rw [show l.drop 1 = rs from hrs] at r1
    have HCON := Aside0.mk (impl_ContinuantOf.calls k A_rs _ rs rest true wT HC1 hC r1)
    have G5 := Aside0.mk (show (num != value) = false ∨ ((num != value) = true ∧ (num != wrap64 (-value)) = false) from by
     rcases r5 with r5 | ⟨r5, r7⟩
     ·exact .inl (by rw [r5, bne_self_eq_false])
     ·exact .inr ⟨bne_iff_ne.2 r5, by rw [← r7, bne_self_eq_false]⟩)
    have G6 := Aside0.mk (show (den != rest) = false ∨ ((den != rest) = true ∧ (den != wrap64 (-rest)) = false) from by
     rcases r6 with r6 | ⟨r6, r7⟩
     ·exact .inl (by rw [r6, bne_self_eq_false])
     ·exact .inr ⟨bne_iff_ne.2 r6, by rw [← r7, bne_self_eq_false]⟩)
    have G4 := Aside0.mk r4; have FD := Aside0.mk (show decide (den < 1) = false from decide_eq_false (by omega))
    clear hA hC HC1 hi0 hsz hrs hc_rs r1 r2 r3 r4 r5 r6
    go_upto_region 44 with (go_at_call 8; (with_reducible refine HCON.out.mono ?_); rintro e wk ⟨rfl, hd⟩; have HBk := Aside0.mk (Lw.below_of hd); clear hd)
    go_cut [420] from 513 (fun v420 wc => v420 = .bool false ∧ Aside0 (Below wk.heap.size wk wc))
    case first =>
     have g4 := G4.out; have fd := FD.out
     rcases G5.out with g5 | ⟨g5, g7⟩ <;> rcases G6.out with g6 | ⟨g6, g8⟩ <;> (
      go_wp2
      go_meet
      case rel => exact ⟨rfl, ⟨Below.refl _ _⟩⟩
     )
    case rest =>
     obtain ⟨rfl, HBc_⟩ := hcut; have HMv := Aside0.mk ((HMt.out.mv HBk.out).mv HBc_.out); have HBv := Aside0.mk (below_step (below_step HBu.out HBk.out) HBc_.out); clear HBc_ HMt HBu HBk; have HCON := Aside0.mk (spec_DrawSplitContinuant.calls k A_m c_m l1 s t wc (HMv.out.now.2.2.2.2.2.2.1) HL_m.out Y1.out)
     go_wp2_with (go_at_call 24; (with_reducible refine HCON.out.mono ?_); rintro e w57 ⟨v_, rfl, ho, hb⟩; obtain ⟨A_s, c_s, e_, hl_s, hc_⟩ := Kd.R_reads ho; subst e_; have HM57 := Aside0.mk (HMv.out.add hb hc_); have HL_s := Aside0.mk hl_s; clear ho hc_ hl_s; have HB57 := Aside0.mk (below_step HBv.out hb); clear hb)
     clear HCON HMv HBv; have HCON := Aside0.mk (impl_SplitContinuant.calls k A_s c_s s t p ok9 w57 (HM57.out.now.1) HL_s.out Y2.out)
     go_wp2_with (go_at_call 23; (with_reducible refine HCON.out.mono ?_); rintro e w58 ⟨v_, rfl, ho, hb⟩; obtain ⟨A_p, c_p, e_, hl_p, hc_⟩ := Kd.R_reads ho; subst e_; have HM58 := Aside0.mk (HM57.out.add hb hc_); have HL_p := Aside0.mk hl_p; clear ho hc_ hl_p; have HB58 := Aside0.mk (below_step HB57.out hb); clear hb)
     clear HCON HM57 HB57; have HCON := Aside0.mk (spec_SplitContinuant.calls k A_s c_s s t p ok9 w58 (HM58.out.now.2.1) HL_s.out Y3.out)
     go_wp2_with (go_at_call 25; (with_reducible refine HCON.out.mono ?_); rintro e w59 ⟨v_, rfl, ho, hb⟩; obtain ⟨A_p2, c_p2, e_, hl_p2, hc_⟩ := Kd.R_reads ho; subst e_; have HM59 := Aside0.mk (HM58.out.add hb hc_); have HL_p2 := Aside0.mk hl_p2; clear ho hc_ hl_p2; have HB59 := Aside0.mk (below_step HB58.out hb); clear hb)
     clear HCON HM58 HB58; have HCON := Aside0.mk (spec_DrawCountTerms.calls A_m c_m l1 n2 w59 (HM59.out.now.2.2.2.2.2.2.2.2.2.1) HL_m.out Y5.out)
     go_wp2_with (go_at_call 26; (with_reducible refine HCON.out.mono ?_); rintro e w60 ⟨rfl, hb⟩; have HM60 := Aside0.mk (HM59.out.mv hb); have HB60 := Aside0.mk (below_step HB59.out hb); clear hb)
     clear HCON HM59 HB59; have HCON := Aside0.mk (impl_CountTerms.calls k n2 cnt ok11 w60 Y6.out)
     go_wp2_with (go_at_call 21; (with_reducible refine HCON.out.mono ?_); rintro e w61 ⟨rfl, hb⟩; have HM61 := Aside0.mk (HM60.out.mv hb); have HB61 := Aside0.mk (below_step HB60.out hb); clear hb)
     clear HCON HM60 HB60; have HCON := Aside0.mk (spec_CountTerms.calls k n2 cnt ok11 w61 Y7.out)
     go_wp2_with (go_at_call 27; (with_reducible refine HCON.out.mono ?_); rintro e w62 ⟨rfl, hb⟩; have HM62 := Aside0.mk (HM61.out.mv hb); have HB62 := Aside0.mk (below_step HB61.out hb); clear hb)
     clear HCON HM61 HB61; have HCON := Aside0.mk (spec_DrawEntryByContinuant.calls k A_m c_m l1 q ii jj w62 (HM62.out.now.2.2.2.2.2.2.2.2.2.1) HL_m.out Y8.out)
     go_wp2_with (go_at_call 28; (with_reducible refine HCON.out.mono ?_); rintro e w63 ⟨v_, rfl, ho, hb⟩; obtain ⟨A_q, c_q, e_, hl_q, hc_⟩ := Kd.Q_reads ho; subst e_; have HM63 := Aside0.mk (HM62.out.add hb hc_); have HL_q := Aside0.mk hl_q; clear ho hc_ hl_q; have HB63 := Aside0.mk (below_step HB62.out hb); clear hb)
     clear HCON HM62 HB62; have HCON := Aside0.mk (impl_EntryByContinuant.calls k A_q c_q q ii jj entry ok13 w63 (HM63.out.now.1) HL_q.out Y9.out)
     go_wp2_with (go_at_call 29; (with_reducible refine HCON.out.mono ?_); rintro e w64 ⟨rfl, hb⟩; have HM64 := Aside0.mk (HM63.out.mv hb); have HB64 := Aside0.mk (below_step HB63.out hb); clear hb)
     clear HCON HM63 HB63; have HCON := Aside0.mk (spec_EntryByContinuant.calls k A_q c_q q ii jj entry ok13 w64 (HM64.out.now.1) HL_q.out Y10.out)
     go_wp2_with (go_at_call 30; (with_reducible refine HCON.out.mono ?_); rintro e w65 ⟨rfl, hb⟩; have HM65 := Aside0.mk (HM64.out.mv hb); have HB65 := Aside0.mk (below_step HB64.out hb); clear hb)
     clear HCON HM64 HB64
     cases ok13 with
     | false =>
      have HCON := Aside0.mk (laws_dSame.calls k A_p c_p p A_p2 c_p2 p true w65 (HM65.out.now.2.2.1) HL_p.out (HM65.out.now.2.1) HL_p2.out Y4.out)
      go_wp2_with (go_at_call 16; (with_reducible refine HCON.out.mono ?_); rintro e w66 ⟨rfl, hd⟩; have hb := Lw.below_of hd; clear hd; have HM66 := Aside0.mk (HM65.out.mv hb); have HB66 := Aside0.mk (below_step HB65.out hb); clear hb)
      clear HCON HM65 HB65
      go_ret
      exact ⟨rfl, HB66.out⟩
     | true =>
      have HCON := Aside0.mk (laws_dSame.calls k A_p c_p p A_p2 c_p2 p true w65 (HM65.out.now.2.2.1) HL_p.out (HM65.out.now.2.1) HL_p2.out Y4.out)
      go_wp2_with (go_at_call 16; (with_reducible refine HCON.out.mono ?_); rintro e w67 ⟨rfl, hd⟩; have hb := Lw.below_of hd; clear hd; have HM67 := Aside0.mk (HM65.out.mv hb); have HB67 := Aside0.mk (below_step HB65.out hb); clear hb)
      clear HCON HM65 HB65; have HCON := Aside0.mk (impl_EntryOf.calls k A_q c_q q ii jj entry true w67 (HM67.out.now.1) HL_q.out (by first | exact Y11.out rfl | exact Y11.out trivial))
      go_wp2_with (go_at_call 31; (with_reducible refine HCON.out.mono ?_); rintro e w68 ⟨rfl, hb⟩; have HM68 := Aside0.mk (HM67.out.mv hb); have HB68 := Aside0.mk (below_step HB67.out hb); clear hb)
      clear HCON HM67 HB67
      go_ret
      exact ⟨rfl, HB68.out⟩
theorem laws_FnContinuantsSplit.calls (k : Nat) (A_c : Option Addr) (c_c : Nat) (l0 : List Int) (A_m : Option Addr) (c_m : Nat) (l1 : List Int) (r : Bool) (w : World) (hr0 : Kd.C (Kd.int .u8) w A_c l0.length l0) (hc0 : l0.length ≤ c_c) (hr1 : Kd.C (Kd.int .u8) w A_m l1.length l1) (hc1 : l1.length ≤ c_m) (h : laws_FnContinuantsSplit.f k l0 l1) :
  Calls Tryz.prog 3 #[.slice A_c l0.length c_c, .slice A_m l1.length c_m] w fun e w' => e = .returned (.bool true) ∧ Below w.heap.size w w' := (laws_FnContinuantsSplit.m0.2 (laws_FnContinuantsSplit.p1.2.2 laws_FnContinuantsSplit.p2 laws_FnContinuantsSplit.p3)) k A_c c_c l0 A_m c_m l1 r w hr0 hc0 hr1 hc1 h
def laws_FnContinuantsSplit.Pure : Prop := ∀ (l0 : List Int) (l1 : List Int), l0.length ≤ 9223372036854775807 → (∀ x ∈ l0, (Lit.int .u8 x).wf = true) → l1.length ≤ 9223372036854775807 → (∀ x ∈ l1, (Lit.int .u8 x).wf = true) → ∃ k, laws_FnContinuantsSplit.f k l0 l1
end Go.Proofs.YtcfcnnnkpdhecaaGreat.PFnContinuantsSplit
