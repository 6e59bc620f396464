-- Written for this claim by a program of this session (wip/tools/xprint.py over the kit's printer, wip/tools/shrink.py).
import Derived.Test.YtobddjeefcoikaaGreatPFnQuidditiesTellx0
import Derived.Test.YtobddjeefcoikaaGreatPFnQuidditiesTellx8
import Derived.Test.YtobddjeefcoikaaGreatPFnQuidditiesTellx10
import Derived.Test.YtobddjeefcoikaaGreatPFnQuidditiesTellx11
import Derived.Test.YtobddjeefcoikaaGreatPFnQuidditiesTellx12
import Derived.Test.YtobddjeefcoikaaGreatPFnQuidditiesTellx13
import Derived.Test.YtobddjeefcoikaaGreatPFnQuidditiesTellx15
import Derived.Test.YtobddjeefcoikaaGreatPFnQuidditiesTellx16
import Derived.Test.YtobddjeefcoikaaGreatPFnQuidditiesTellx17
import Derived.Test.YtobddjeefcoikaaGreatPFnQuidditiesTellx18
import Derived.Test.YtobddjeefcoikaaGreatPFnQuidditiesTellx21
import Derived.Test.YtobddjeefcoikaaGreatPFnQuidditiesTellx24
import Derived.Test.YtobddjeefcoikaaGreatPFnQuidditiesTellx25
namespace Go.Proofs.YtobddjeefcoikaaGreat.PFnQuidditiesTell
open Go.RowKit Go.Proofs.YtobddjeefcoikaaGreatW.PrintWords Go.Proofs.YtobddjeefcoikaaGreatW.PrintLast Go.Proofs.YtobddjeefcoikaaGreatW.PrintMore
attribute [local go_sem] max2_int min2_int max_two min_two max_three min_three max_four min_four   -- for this text's walks alone
set_option linter.unusedVariables false
set_option linter.unusedSimpArgs false
def laws_FnQuidditiesTell.row (xs : List (List Int)) (i : Int) : List Int := xs.getD i.toNat []
theorem laws_FnQuidditiesTell.at_row {w : World} {A : Option Addr} {n : Nat} {xs : List (List Int)} (h : Kd.C (Kd.slice 3 (Kd.int .i64)) w A n xs) (i : Int) (h0 : 0 ≤ i) (h1 : i < n) : ∃ ad A0 c0, A = some ad ∧ w.cell? (ad.add i.toNat) = some (.slice A0 (laws_FnQuidditiesTell.row xs i).length c0) ∧ (laws_FnQuidditiesTell.row xs i).length ≤ c0 ∧ (Kd.int .i64).C w A0 (laws_FnQuidditiesTell.row xs i).length (laws_FnQuidditiesTell.row xs i) := by
 obtain ⟨ad, c, e, _, hK, hc0⟩ := Kd.C_get h ([] : List Int) i h0 h1; have hc : ∀ j u, c[j]? = some u → w.cell? (ad.add (i.toNat * 1 + j)) = some u := hc0; obtain ⟨A0, c0, rfl, l0, g0⟩ := hK; exact ⟨ad, A0, c0, e, by have hq := hc 0 _ rfl; rwa [Nat.mul_one, Nat.add_zero] at hq, l0, g0⟩
def laws_FnQuidditiesTell.Stb (w : World) (P : World → Prop) : Prop := ∀ W, Below w.heap.size w W → P W
theorem laws_FnQuidditiesTell.Stb.mv {w w1 : World} {P : World → Prop} (h : laws_FnQuidditiesTell.Stb w P) (hb : Below w.heap.size w w1) : laws_FnQuidditiesTell.Stb w1 P := fun W hW => h W (below_step hb hW)
theorem laws_FnQuidditiesTell.Stb.add {w w1 : World} {P : World → Prop} (h : laws_FnQuidditiesTell.Stb w P) (hb : Below w.heap.size w w1) {α : Type} {d : Kd α} {A : Option Addr} {n : Nat} {xs : List α} (hc : Kd.C d w1 A n xs) : laws_FnQuidditiesTell.Stb w1 (fun W => Kd.C d W A n xs ∧ P W) := fun W hW => ⟨Kd.C_below hc hW, h W (below_step hb hW)⟩
theorem laws_FnQuidditiesTell.Stb.now {w : World} {P : World → Prop} (h : laws_FnQuidditiesTell.Stb w P) : P w := h w (Below.refl _ _)
def laws_FnQuidditiesTell.sm (b : List (List Int)) (i : Nat) : Nat := ((b.take i).map List.length).sum
def laws_FnQuidditiesTell.cnt (k : Nat) (t : List (List Int)) (i : Int) (m : Nat) : Nat := ((t.take m).filter fun r => laws_uHas.f k r i == some true).length
def laws_FnQuidditiesTell.okB (k : Nat) (n : Int) (ds : List S46) (q e : List Int) (t b : List (List Int)) (p : Int) (mr : List S46) (oth : List Int) : Prop :=
 impl_TriangulationOf.f k q = some (ds, true) ∧ impl_MirrorPolygon.f k n mr = some (ds, true) ∧ impl_QuiddityOf.f k n mr = some (oth, true) ∧ impl_IsQuiddity.f k q = some true ∧ laws_uSum.f k q = some (3 * n - 6) ∧ laws_uCuts.f k ds ds = some true ∧
 ((q.length : Int) = n ∧ 3 ≤ n ∧ n ≤ 1000 ∧ 0 < p ∧ (oth.length : Int) = n ∧ (t.length : Int) = n - 2 ∧ ds.length ≤ 1000 ∧ (3 < n → 2 ≤ e.length) ∧ b.length ≤ 1000 ∧ ((laws_FnQuidditiesTell.sm b b.length : Nat) : Int) = 2 * (n - 3)) ∧ n.tmod p = 0 ∧
 (∀ i : Nat, i < b.length → ∀ j : Nat, j < (laws_FnQuidditiesTell.row b i).length → 0 ≤ rd (laws_FnQuidditiesTell.row b i) j ∧ rd (laws_FnQuidditiesTell.row b i) j < (t.length : Int) ∧ rd (laws_FnQuidditiesTell.row b i) j < (b.length : Int) ∧ rd (laws_FnQuidditiesTell.row b i) j ≠ (i : Int) ∧ laws_uHas.f k (laws_FnQuidditiesTell.row b (rd (laws_FnQuidditiesTell.row b i) j)) i = some true) ∧
 (∀ i : Nat, i < q.length → ((laws_FnQuidditiesTell.cnt k t i t.length : Nat) : Int) = rd q i ∧ laws_uHas.f k e i = some (rd q i == 1) ∧ rd oth (n - 1 - i) = rd q i ∧ ∀ m : Nat, m < t.length → ∃ bb, laws_uHas.f k (laws_FnQuidditiesTell.row t m) i = some bb) ∧
 (∀ i : Nat, i < ds.length → impl_IsDiagonal.f n (rd_T46 ds i).f0 (rd_T46 ds i).f1 = some true ∧ ∀ j : Nat, j < i → impl_DoCross.f n (rd_T46 ds i).f0 (rd_T46 ds i).f1 (rd_T46 ds j).f0 (rd_T46 ds j).f1 = some (false, true))
def laws_FnQuidditiesTell.part1 (k : Nat) (n : Int) (ds : List S46) : Prop :=
 ∃ (q e : List Int) (t b : List (List Int)) (p : Int) (mr : List S46) (ok : Bool), impl_QuiddityOf.f k n ds = some (q, ok) ∧ spec_QuiddityOf.f k n ds = some (q, ok) ∧ impl_EarsOf.f k n ds = some (e, ok) ∧ spec_EarsOf.f k n ds = some (e, ok) ∧ impl_TrianglesOf.f k n ds = some (t, ok) ∧ spec_TrianglesOf.f k n ds = some (t, ok) ∧ impl_TrianglesBeside.f k n ds = some (b, ok) ∧ spec_TrianglesBeside.f k n ds = some (b, ok) ∧
 impl_PeriodOfPolygon.f k n ds = some (p, ok) ∧ spec_PeriodOfPolygon.f k n ds = some (p, ok) ∧ impl_MirrorPolygon.f k n ds = some (mr, ok) ∧ spec_MirrorPolygon.f k n ds = some (mr, ok) ∧ impl_IsTriangulation.f k n ds = some ok ∧ spec_IsTriangulation.f k n ds = some ok ∧ laws_uSame.f k q q = some true ∧ laws_uSame.f k e e = some true ∧ laws_uRows.f k t t = some true ∧ laws_uRows.f k b b = some true ∧ laws_uCuts.f k mr mr = some true ∧
 (ok = true → ∃ oth, laws_FnQuidditiesTell.okB k n ds q e t b p mr oth)
def laws_FnQuidditiesTell.part2 (k : Nat) (m : Int) (es : List S46) (kk : Int) : Prop := ∃ (tr : List S46) (ok : Bool), impl_TurnPolygon.f k m es kk = some (tr, ok) ∧ spec_TurnPolygon.f k m es kk = some (tr, ok) ∧ laws_uCuts.f k tr tr = some true ∧ (ok = true → ∃ a b : List Int, impl_QuiddityOf.f k m es = some (a, true) ∧ impl_QuiddityOf.f k m tr = some (b, true) ∧ impl_TurnPolygon.f k m tr ((m - kk).tmod m) = some (es, true) ∧ laws_uCuts.f k es es = some true ∧ 3 ≤ m ∧ m ≤ 1000 ∧ 0 ≤ kk ∧ kk < m ∧ (a.length : Int) = m ∧ (b.length : Int) = m ∧ ∀ i : Nat, i < a.length → rd b (((i : Int) + kk).tmod m) = rd a i)
def laws_FnQuidditiesTell.f (k : Nat) (l0 l1 : List Int) : Prop := laws_big.f l0 l1 = some true ∨ (laws_big.f l0 l1 = some false ∧ (∃ n ds, spec_DrawQuiddityOf.f k l0 = some (n, ds) ∧ laws_FnQuidditiesTell.part1 k n ds) ∧ (∃ m es kk, spec_DrawTurnPolygon.f k l1 = some (m, es, kk) ∧ laws_FnQuidditiesTell.part2 k m es kk))
theorem laws_FnQuidditiesTell.cu {i c : Nat} (h : i ≤ c) : (i ≤ c) = True ∧ ((i : Int) ≤ (c : Int)) = True ∧ (0 ≤ (i : Int)) = True := ⟨eq_true h, eq_true (by omega), eq_true (by omega)⟩
theorem laws_FnQuidditiesTell.cnt_succ (k : Nat) (t : List (List Int)) (i : Int) (m : Nat) (bb : Bool) (c : m < t.length) (h : laws_uHas.f k (laws_FnQuidditiesTell.row t (m : Int)) i = some bb) : laws_FnQuidditiesTell.cnt k t i (m + 1) = laws_FnQuidditiesTell.cnt k t i m + (if bb = true then 1 else 0) := by
 have h1 : laws_FnQuidditiesTell.row t (m : Int) = t[m] := by unfold laws_FnQuidditiesTell.row; rw [Int.toNat_natCast, List.getD_eq_getElem?_getD, List.getElem?_eq_getElem c]; rfl
 rw [h1] at h
 unfold laws_FnQuidditiesTell.cnt
 rw [List.take_add_one, List.getElem?_eq_getElem c, List.filter_append, List.length_append]
 cases bb <;> simp [h]
theorem laws_FnQuidditiesTell.cnt_le (k : Nat) (t : List (List Int)) (i : Int) (m : Nat) : laws_FnQuidditiesTell.cnt k t i m ≤ m := Nat.le_trans (List.length_filter_le _ _) (List.length_take_le _ _)
theorem laws_FnQuidditiesTell.cs {k : Nat} {t : List (List Int)} {i n : Int} {m : Nat} {bb : Bool} (c : m < t.length) (ht : (t.length : Int) = n - 2) (hn : n ≤ 1000) (h : laws_uHas.f k (laws_FnQuidditiesTell.row t (m : Int)) i = some bb) : (bb = true → wrap64 (((laws_FnQuidditiesTell.cnt k t i m : Nat) : Int) + 1) = ((laws_FnQuidditiesTell.cnt k t i (m + 1) : Nat) : Int)) ∧ (bb = false → ((laws_FnQuidditiesTell.cnt k t i m : Nat) : Int) = ((laws_FnQuidditiesTell.cnt k t i (m + 1) : Nat) : Int)) ∧ wrap64 ((m : Int) + 1) = (m : Int) + 1 := by
 have h1 := laws_FnQuidditiesTell.cnt_succ k t i m bb c h; have h2 := laws_FnQuidditiesTell.cnt_le k t i m; refine ⟨fun e => ?_, fun e => ?_, by simp only [wrap64]; omega⟩
 ·rw [h1, if_pos e]; simp only [wrap64]; omega
 ·rw [h1, if_neg (by rw [e]; decide)]; rfl
theorem laws_FnQuidditiesTell.ce {k : Nat} {t : List (List Int)} {i x : Int} {m : Nat} (h : m ≤ t.length) (c : ¬ m < t.length) (hx : ((laws_FnQuidditiesTell.cnt k t i t.length : Nat) : Int) = x) : ((laws_FnQuidditiesTell.cnt k t i m : Nat) : Int) = x := by
 rw [show m = t.length by omega]; exact hx
theorem laws_FnQuidditiesTell.qf {n : Int} {ql ol i : Nat} (hq : (ql : Int) = n) (hn : n ≤ 1000) (ho : (ol : Int) = n) (c : i < ql) : 0 ≤ n - 1 - (i : Int) ∧ n - 1 - (i : Int) < (ol : Int) ∧ wrap64 (n - 1) = n - 1 ∧ wrap64 (n - 1 - (i : Int)) = n - 1 - (i : Int) ∧ wrap64 ((i : Int) + 1) = (i : Int) + 1 := ⟨by omega, by omega, by simp only [wrap64]; omega, by simp only [wrap64]; omega, by simp only [wrap64]; omega⟩
theorem laws_FnQuidditiesTell.sm_succ (b : List (List Int)) (i : Nat) (h : i < b.length) : laws_FnQuidditiesTell.sm b (i + 1) = laws_FnQuidditiesTell.sm b i + (laws_FnQuidditiesTell.row b (i : Int)).length := by
 unfold laws_FnQuidditiesTell.sm laws_FnQuidditiesTell.row
 rw [List.take_add_one, List.getElem?_eq_getElem h, List.map_append, List.sum_append, Int.toNat_natCast, List.getD_eq_getElem?_getD, List.getElem?_eq_getElem h]
 simp
theorem laws_FnQuidditiesTell.sm_le (b : List (List Int)) : ∀ d i : Nat, i + d = b.length → laws_FnQuidditiesTell.sm b i ≤ laws_FnQuidditiesTell.sm b b.length
 | 0, i, h => by rw [← h]; exact Nat.le_refl _
 | d + 1, i, h => by have h1 := laws_FnQuidditiesTell.sm_le b d (i + 1) (by omega); have h2 := laws_FnQuidditiesTell.sm_succ b i (by omega); omega
theorem laws_FnQuidditiesTell.sb {b : List (List Int)} {n : Int} {i : Nat} {row : List Int} (h : ((laws_FnQuidditiesTell.sm b b.length : Nat) : Int) = 2 * (n - 3)) (hn : n ≤ 1000) (hb : b.length ≤ 1000) (c : i < b.length) (hr : laws_FnQuidditiesTell.row b (i : Int) = row) : wrap64 (((laws_FnQuidditiesTell.sm b i : Nat) : Int) + (row.length : Int)) = ((laws_FnQuidditiesTell.sm b (i + 1) : Nat) : Int) ∧ wrap64 ((i : Int) + 1) = (i : Int) + 1 ∧ row.length ≤ 100000 := by
 have h1 := laws_FnQuidditiesTell.sm_succ b i c; have h2 := laws_FnQuidditiesTell.sm_le b (b.length - (i + 1)) (i + 1) (by omega)
 rw [hr] at h1
 refine ⟨by simp only [wrap64]; omega, by simp only [wrap64]; omega, by omega⟩
theorem laws_FnQuidditiesTell.se {b : List (List Int)} {n : Int} {i : Nat} (h : ((laws_FnQuidditiesTell.sm b b.length : Nat) : Int) = 2 * (n - 3)) (hn : 3 ≤ n ∧ n ≤ 1000) (hi : i ≤ b.length) (c : ¬ i < b.length) : ((laws_FnQuidditiesTell.sm b i : Nat) : Int) = 2 * (n - 3) ∧ wrap64 (n - 3) = n - 3 ∧ wrap64 (2 * (n - 3)) = 2 * (n - 3) := by
 have : i = b.length := by omega
 subst this; exact ⟨h, by simp only [wrap64]; omega, by simp only [wrap64]; omega⟩
theorem laws_FnQuidditiesTell.ba {n p : Int} {ql tl el : Nat} (h : (ql : Int) = n ∧ 3 ≤ n ∧ n ≤ 1000 ∧ 0 < p) (ht : (tl : Int) = n - 2) (he : 3 < n → 2 ≤ el) : ((ql : Int) != n) = false ∧ wrap64 (3 * n) = 3 * n ∧ wrap64 (3 * n - 6) = 3 * n - 6 ∧ wrap64 (n - 2) = n - 2 ∧ ((tl : Int) != n - 2) = false ∧ (p = 0) = False ∧ ((decide (3 < n) = true ∧ decide ((el : Int) < 2) = false) ∨ decide (3 < n) = false) := by
 refine ⟨by simp [h.1], by simp only [wrap64]; omega, by simp only [wrap64]; omega, by simp only [wrap64]; omega, by simp [ht], eq_false (by omega), ?_⟩
 by_cases c : 3 < n
 ·exact .inl ⟨decide_eq_true c, decide_eq_false (by have := he c; omega)⟩
 ·exact .inr (decide_eq_false c)
theorem laws_FnQuidditiesTell.xb {x i : Int} {tl : Nat} (h0 : 0 ≤ x) (h1 : x < (tl : Int)) (h2 : x ≠ i) : decide (x < 0) = false ∧ decide ((tl : Int) ≤ x) = false ∧ (x == i) = false := ⟨decide_eq_false (by omega), decide_eq_false (by omega), beq_eq_false_iff_ne.2 h2⟩
theorem laws_FnQuidditiesTell.a4 {i L : Nat} (c : i < L) (h : L ≤ 100000) : wrap64 ((i : Int) + 1) = (i : Int) + 1 := by simp only [wrap64]; omega
theorem laws_FnQuidditiesTell.a0 {i L : Nat} (c : ¬ i < L) : decide ((i : Int) < (L : Int)) = false := decide_eq_false (by omega)
theorem laws_FnQuidditiesTell.a1 {gk i L : Nat} (h : i ≤ L ∧ gk + i = L + 1) (c : i < L) : gk - 1 < gk ∧ i + 1 ≤ L ∧ gk - 1 + (i + 1) = L + 1 := by omega
theorem laws_FnQuidditiesTell.a2 (i : Nat) : ((i + 1 : Nat) : Int) = (i : Int) + 1 := by omega
theorem laws_FnQuidditiesTell.a3 {i L : Nat} (c : i < L) : 0 ≤ (i : Int) ∧ (i : Int) < (L : Int) ∧ decide ((i : Int) < (L : Int)) = true := ⟨by omega, by omega, decide_eq_true (by omega)⟩
theorem laws_FnQuidditiesTell.tf {m kk : Int} {la lb i : Nat} (h : 3 ≤ m ∧ m ≤ 1000 ∧ 0 ≤ kk ∧ kk < m ∧ (la : Int) = m ∧ (lb : Int) = m) (c : i < la) : 0 ≤ ((i : Int) + kk).tmod m ∧ ((i : Int) + kk).tmod m < (lb : Int) ∧ wrap64 ((i : Int) + kk) = (i : Int) + kk ∧ wrap64 ((i : Int) + 1) = (i : Int) + 1 ∧ 0 ≤ (i : Int) ∧ (i : Int) < (la : Int) ∧ decide ((i : Int) < (la : Int)) = true :=
 ⟨Int.tmod_nonneg _ (by omega), by rw [h.2.2.2.2.2]; exact Int.tmod_lt_of_pos _ (by omega), by simp only [wrap64]; omega, by simp only [wrap64]; omega, by omega, by omega, decide_eq_true (by omega)⟩
theorem laws_FnQuidditiesTell.mk {m kk : Int} (h : 3 ≤ m ∧ m ≤ 1000 ∧ 0 ≤ kk ∧ kk < m) : (m = 0) = False ∧ wrap64 (m - kk) = m - kk := ⟨eq_false (by omega), by simp only [wrap64]; omega⟩
set_option maxHeartbeats 80000000 in
set_option maxRecDepth 100000 in
theorem laws_FnQuidditiesTell.calls (k : Nat) (A_c : Option Addr) (c_c : Nat) (l0 : List Int) (A_m : Option Addr) (c_m : Nat) (l1 : List Int) (r : Bool) (w : World) (hr0 : Kd.C (Kd.int .u8) w A_c l0.length l0) (hc0 : l0.length ≤ c_c) (hr1 : Kd.C (Kd.int .u8) w A_m l1.length l1) (hc1 : l1.length ≤ c_m) (h : laws_FnQuidditiesTell.f k l0 l1) :
  Calls Tryz.prog 3 #[.slice A_c l0.length c_c, .slice A_m l1.length c_m] w fun e w' => e = .returned (.bool true) ∧ Below w.heap.size w w' := by
 have HM0 := Aside0.mk (show laws_FnQuidditiesTell.Stb w (fun W => Kd.C (Kd.int .u8) W A_m l1.length l1 ∧ Kd.C (Kd.int .u8) W A_c l0.length l0 ∧ True) from fun W hW => ⟨Kd.C_below hr1 hW, Kd.C_below hr0 hW, trivial⟩)
 have HB0 := Aside0.mk (Below.refl w.heap.size w); have HL_c := Aside0.mk hc0; have HL_m := Aside0.mk hc1; clear hr0 hr1 hc0 hc1
 rcases h with hbig | ⟨hbig, ⟨n, ds, hd, hp1⟩, ⟨m, es, kk, hd2, hp2⟩⟩
 ·have HZ := Aside0.mk hbig
  clear hbig
  go_enter Tryz.func3, Tryz.ntmps3
  have HCON := Aside0.mk (laws_big.calls A_c c_c l0 A_m c_m l1 true w (HM0.out.now.2.1) HL_c.out (HM0.out.now.1) HL_m.out HZ.out)
  go_wp2_with (go_at_call 4; (with_reducible refine HCON.out.mono ?_); rintro e w1 ⟨rfl, hd⟩; have hb := Lw.below_of hd; clear hd; have HM1 := Aside0.mk (HM0.out.mv hb); have HB1 := Aside0.mk (below_step HB0.out hb); clear hb)
  clear HCON HM0 HB0
  go_ret
  exact ⟨rfl, HB1.out⟩
 ·have HZ := Aside0.mk hbig
  have HD := Aside0.mk hd; have HD2 := Aside0.mk hd2; obtain ⟨q, e, t, b, p, mr, ok, z1, z2, z3, z4, z5, z6, z7, z8, z9, z10, z11, z12, z13, z14, z15, z16, z17, z18, z19, zok⟩ := hp1; have Z1 := Aside0.mk z1; have Z2 := Aside0.mk z2; have Z3 := Aside0.mk z3; have Z4 := Aside0.mk z4; have Z5 := Aside0.mk z5; have Z6 := Aside0.mk z6; have Z7 := Aside0.mk z7; have Z8 := Aside0.mk z8; have Z9 := Aside0.mk z9; have Z10 := Aside0.mk z10; have Z11 := Aside0.mk z11; have Z12 := Aside0.mk z12; have Z13 := Aside0.mk z13; have Z14 := Aside0.mk z14; have Z15 := Aside0.mk z15; have Z16 := Aside0.mk z16; have Z17 := Aside0.mk z17; have Z18 := Aside0.mk z18; have Z19 := Aside0.mk z19; obtain ⟨tr, ok2, t1, t2, t3, tk⟩ := hp2; have T1 := Aside0.mk t1; have T2 := Aside0.mk t2; have T3 := Aside0.mk t3; have TK := Aside0.mk tk; clear t1 t2 t3 tk; have ZK := Aside0.mk zok; clear hbig hd hd2 z1 z2 z3 z4 z5 z6 z7 z8 z9 z10 z11 z12 z13 z14 z15 z16 z17 z18 z19 zok
  go_enter Tryz.func3, Tryz.ntmps3
  have HCON := Aside0.mk (laws_big.calls A_c c_c l0 A_m c_m l1 false w (HM0.out.now.2.1) HL_c.out (HM0.out.now.1) HL_m.out HZ.out)
  go_wp2_with (go_at_call 4; (with_reducible refine HCON.out.mono ?_); rintro e w2 ⟨rfl, hd⟩; have hb := Lw.below_of hd; clear hd; have HM2 := Aside0.mk (HM0.out.mv hb); have HB2 := Aside0.mk (below_step HB0.out hb); clear hb)
  clear HCON HM0 HB0; have HCON := Aside0.mk (spec_DrawQuiddityOf.calls k A_c c_c l0 n ds w2 (HM2.out.now.2.1) HL_c.out HD.out)
  go_wp2_with (go_at_call 5; (with_reducible refine HCON.out.mono ?_); rintro e w3 ⟨v_, rfl, ho, hb⟩; obtain ⟨A_ds, c_ds, e_, hl_ds, hc_⟩ := Kd.R_reads ho; subst e_; have HM3 := Aside0.mk (HM2.out.add hb hc_); have HL_ds := Aside0.mk hl_ds; clear ho hc_ hl_ds; have HB3 := Aside0.mk (below_step HB2.out hb); clear hb)
  clear HCON HM2 HB2; have HCON := Aside0.mk (impl_QuiddityOf.calls k n A_ds c_ds ds q ok w3 (HM3.out.now.1) HL_ds.out Z1.out)
  go_wp2_with (go_at_call 6; (with_reducible refine HCON.out.mono ?_); rintro e w4 ⟨v_, rfl, ho, hb⟩; obtain ⟨A_q, c_q, e_, hl_q, hc_⟩ := Kd.R_reads ho; subst e_; have HM4 := Aside0.mk (HM3.out.add hb hc_); have HL_q := Aside0.mk hl_q; clear ho hc_ hl_q; have HB4 := Aside0.mk (below_step HB3.out hb); clear hb)
  clear HCON HM3 HB3; have HCON := Aside0.mk (spec_QuiddityOf.calls k n A_ds c_ds ds q ok w4 (HM4.out.now.2.1) HL_ds.out Z2.out)
  go_wp2_with (go_at_call 7; (with_reducible refine HCON.out.mono ?_); rintro e w5 ⟨v_, rfl, ho, hb⟩; obtain ⟨A_q2, c_q2, e_, hl_q2, hc_⟩ := Kd.R_reads ho; subst e_; have HM5 := Aside0.mk (HM4.out.add hb hc_); have HL_q2 := Aside0.mk hl_q2; clear ho hc_ hl_q2; have HB5 := Aside0.mk (below_step HB4.out hb); clear hb)
  clear HCON HM4 HB4; have HCON := Aside0.mk (impl_EarsOf.calls k n A_ds c_ds ds e ok w5 (HM5.out.now.2.2.1) HL_ds.out Z3.out)
  go_wp2_with (go_at_call 8; (with_reducible refine HCON.out.mono ?_); rintro e w6 ⟨v_, rfl, ho, hb⟩; obtain ⟨A_e, c_e, e_, hl_e, hc_⟩ := Kd.R_reads ho; subst e_; have HM6 := Aside0.mk (HM5.out.add hb hc_); have HL_e := Aside0.mk hl_e; clear ho hc_ hl_e; have HB6 := Aside0.mk (below_step HB5.out hb); clear hb)
  clear HCON HM5 HB5; have HCON := Aside0.mk (spec_EarsOf.calls k n A_ds c_ds ds e ok w6 (HM6.out.now.2.2.2.1) HL_ds.out Z4.out)
  go_wp2_with (go_at_call 9; (with_reducible refine HCON.out.mono ?_); rintro e w7 ⟨v_, rfl, ho, hb⟩; obtain ⟨A_e2, c_e2, e_, hl_e2, hc_⟩ := Kd.R_reads ho; subst e_; have HM7 := Aside0.mk (HM6.out.add hb hc_); have HL_e2 := Aside0.mk hl_e2; clear ho hc_ hl_e2; have HB7 := Aside0.mk (below_step HB6.out hb); clear hb)
  clear HCON HM6 HB6; have HCON := Aside0.mk (impl_TrianglesOf.calls k n A_ds c_ds ds t ok w7 (HM7.out.now.2.2.2.2.1) HL_ds.out Z5.out)
  go_wp2_with (go_at_call 10; (with_reducible refine HCON.out.mono ?_); rintro e w8 ⟨v_, rfl, ho, hb⟩; obtain ⟨A_t, c_t, e_, hl_t, hc_⟩ := Kd.S_reads ho; subst e_; have HM8 := Aside0.mk (HM7.out.add hb hc_); have HL_t := Aside0.mk hl_t; clear ho hc_ hl_t; have HB8 := Aside0.mk (below_step HB7.out hb); clear hb)
  clear HCON HM7 HB7; have HCON := Aside0.mk (spec_TrianglesOf.calls k n A_ds c_ds ds t ok w8 (HM8.out.now.2.2.2.2.2.1) HL_ds.out Z6.out)
  go_wp2_with (go_at_call 11; (with_reducible refine HCON.out.mono ?_); rintro e w9 ⟨v_, rfl, ho, hb⟩; obtain ⟨A_t2, c_t2, e_, hl_t2, hc_⟩ := Kd.S_reads ho; subst e_; have HM9 := Aside0.mk (HM8.out.add hb hc_); have HL_t2 := Aside0.mk hl_t2; clear ho hc_ hl_t2; have HB9 := Aside0.mk (below_step HB8.out hb); clear hb)
  clear HCON HM8 HB8; have HCON := Aside0.mk (impl_TrianglesBeside.calls k n A_ds c_ds ds b ok w9 (HM9.out.now.2.2.2.2.2.2.1) HL_ds.out Z7.out)
  go_wp2_with (go_at_call 12; (with_reducible refine HCON.out.mono ?_); rintro e w10 ⟨v_, rfl, ho, hb⟩; obtain ⟨A_b, c_b, e_, hl_b, hc_⟩ := Kd.S_reads ho; subst e_; have HM10 := Aside0.mk (HM9.out.add hb hc_); have HL_b := Aside0.mk hl_b; clear ho hc_ hl_b; have HB10 := Aside0.mk (below_step HB9.out hb); clear hb)
  clear HCON HM9 HB9; have HCON := Aside0.mk (spec_TrianglesBeside.calls k n A_ds c_ds ds b ok w10 (HM10.out.now.2.2.2.2.2.2.2.1) HL_ds.out Z8.out)
  go_wp2_with (go_at_call 13; (with_reducible refine HCON.out.mono ?_); rintro e w11 ⟨v_, rfl, ho, hb⟩; obtain ⟨A_b2, c_b2, e_, hl_b2, hc_⟩ := Kd.S_reads ho; subst e_; have HM11 := Aside0.mk (HM10.out.add hb hc_); have HL_b2 := Aside0.mk hl_b2; clear ho hc_ hl_b2; have HB11 := Aside0.mk (below_step HB10.out hb); clear hb)
  clear HCON HM10 HB10; have HCON := Aside0.mk (impl_PeriodOfPolygon.calls k n A_ds c_ds ds p ok w11 (HM11.out.now.2.2.2.2.2.2.2.2.1) HL_ds.out Z9.out)
  go_wp2_with (go_at_call 14; (with_reducible refine HCON.out.mono ?_); rintro e w12 ⟨rfl, hb⟩; have HM12 := Aside0.mk (HM11.out.mv hb); have HB12 := Aside0.mk (below_step HB11.out hb); clear hb)
  clear HCON HM11 HB11; have HCON := Aside0.mk (spec_PeriodOfPolygon.calls k n A_ds c_ds ds p ok w12 (HM12.out.now.2.2.2.2.2.2.2.2.1) HL_ds.out Z10.out)
  go_wp2_with (go_at_call 15; (with_reducible refine HCON.out.mono ?_); rintro e w13 ⟨rfl, hb⟩; have HM13 := Aside0.mk (HM12.out.mv hb); have HB13 := Aside0.mk (below_step HB12.out hb); clear hb)
  clear HCON HM12 HB12; have HCON := Aside0.mk (impl_MirrorPolygon.calls k n A_ds c_ds ds mr ok w13 (HM13.out.now.2.2.2.2.2.2.2.2.1) HL_ds.out Z11.out)
  go_wp2_with (go_at_call 16; (with_reducible refine HCON.out.mono ?_); rintro e w14 ⟨v_, rfl, ho, hb⟩; obtain ⟨A_mr, c_mr, e_, hl_mr, hc_⟩ := Kd.R_reads ho; subst e_; have HM14 := Aside0.mk (HM13.out.add hb hc_); have HL_mr := Aside0.mk hl_mr; clear ho hc_ hl_mr; have HB14 := Aside0.mk (below_step HB13.out hb); clear hb)
  clear HCON HM13 HB13; have HCON := Aside0.mk (spec_MirrorPolygon.calls k n A_ds c_ds ds mr ok w14 (HM14.out.now.2.2.2.2.2.2.2.2.2.1) HL_ds.out Z12.out)
  go_upto_region 16 with (go_at_call 17; (with_reducible refine HCON.out.mono ?_); rintro e w15 ⟨v_, rfl, ho, hb⟩; obtain ⟨A_mr2, c_mr2, e_, hl_mr2, hc_⟩ := Kd.R_reads ho; subst e_; have HM15 := Aside0.mk (HM14.out.add hb hc_); have HL_mr2 := Aside0.mk hl_mr2; clear ho hc_ hl_mr2; have HB15 := Aside0.mk (below_step HB14.out hb); clear hb)
  clear HCON HM14 HB14
  cases ok with
  | true =>
   obtain ⟨oth, y1, y2, y3, y4, y5, y6, y7, y8, y9, y10, y11⟩ := ZK.out rfl; have Y1 := Aside0.mk y1; have Y2 := Aside0.mk y2; have Y3 := Aside0.mk y3; have Y4 := Aside0.mk y4; have Y5 := Aside0.mk y5; have Y6 := Aside0.mk y6; have Y7 := Aside0.mk y7; have Y8 := Aside0.mk y8; have Y9 := Aside0.mk y9; have Y10 := Aside0.mk y10; have Y11 := Aside0.mk y11; clear ZK y1 y2 y3 y4 y5 y6 y7 y8 y9 y10 y11; have HNP := Y8.out; obtain ⟨b1_, b2_, b3_, b4_, b5_, b6_, hd3⟩ := laws_FnQuidditiesTell.ba ⟨Y7.out.1, Y7.out.2.1, Y7.out.2.2.1, Y7.out.2.2.2.1⟩ Y7.out.2.2.2.2.2.1 Y7.out.2.2.2.2.2.2.2.1
   simp only [List.append_eq, List.cons_append, List.nil_append]
   have HCON := Aside0.mk (laws_uSame.calls k A_q c_q q A_q2 c_q2 q true w15 (HM15.out.now.2.2.2.2.2.2.2.2.2.1) HL_q.out (HM15.out.now.2.2.2.2.2.2.2.2.1) HL_q2.out Z15.out)
   go_wp2_with (go_at_call 18; (with_reducible refine HCON.out.mono ?_); rintro e w16 ⟨rfl, hd⟩; have hb := Lw.below_of hd; clear hd; have HM16 := Aside0.mk (HM15.out.mv hb); have HB16 := Aside0.mk (below_step HB15.out hb); clear hb)
   clear HCON HM15 HB15; have HCON := Aside0.mk (laws_uSame.calls k A_e c_e e A_e2 c_e2 e true w16 (HM16.out.now.2.2.2.2.2.2.2.1) HL_e.out (HM16.out.now.2.2.2.2.2.2.1) HL_e2.out Z16.out)
   go_wp2_with (go_at_call 18; (with_reducible refine HCON.out.mono ?_); rintro e w17 ⟨rfl, hd⟩; have hb := Lw.below_of hd; clear hd; have HM17 := Aside0.mk (HM16.out.mv hb); have HB17 := Aside0.mk (below_step HB16.out hb); clear hb)
   clear HCON HM16 HB16; have HCON := Aside0.mk (laws_uRows.calls k A_t c_t t A_t2 c_t2 t true w17 (HM17.out.now.2.2.2.2.2.1) HL_t.out (HM17.out.now.2.2.2.2.1) HL_t2.out Z17.out)
   go_wp2_with (go_at_call 19; (with_reducible refine HCON.out.mono ?_); rintro e w18 ⟨rfl, hd⟩; have hb := Lw.below_of hd; clear hd; have HM18 := Aside0.mk (HM17.out.mv hb); have HB18 := Aside0.mk (below_step HB17.out hb); clear hb)
   clear HCON HM17 HB17; have HCON := Aside0.mk (laws_uRows.calls k A_b c_b b A_b2 c_b2 b true w18 (HM18.out.now.2.2.2.1) HL_b.out (HM18.out.now.2.2.1) HL_b2.out Z18.out)
   go_wp2_with (go_at_call 19; (with_reducible refine HCON.out.mono ?_); rintro e w19 ⟨rfl, hd⟩; have hb := Lw.below_of hd; clear hd; have HM19 := Aside0.mk (HM18.out.mv hb); have HB19 := Aside0.mk (below_step HB18.out hb); clear hb)
   clear HCON HM18 HB18; have HCON := Aside0.mk (laws_uCuts.calls k A_mr c_mr mr A_mr2 c_mr2 mr true w19 (HM19.out.now.2.1) HL_mr.out (HM19.out.now.1) HL_mr2.out Z19.out)
   go_wp2_with (go_at_call 20; (with_reducible refine HCON.out.mono ?_); rintro e w20 ⟨rfl, hd⟩; have hb := Lw.below_of hd; clear hd; have HM20 := Aside0.mk (HM19.out.mv hb); have HB20 := Aside0.mk (below_step HB19.out hb); clear hb)
   clear HCON HM19 HB19; have HCON := Aside0.mk (impl_IsTriangulation.calls k n A_ds c_ds ds _ w20 (HM20.out.now.2.2.2.2.2.2.2.2.2.2.1) HL_ds.out Z13.out)
   go_wp2_with (go_at_call 21; (with_reducible refine HCON.out.mono ?_); rintro e w21 ⟨rfl, hb⟩; have HM21 := Aside0.mk (HM20.out.mv hb); have HB21 := Aside0.mk (below_step HB20.out hb); clear hb)
   clear HCON HM20 HB20; have HCON := Aside0.mk (impl_IsTriangulation.calls k n A_ds c_ds ds _ w21 (HM21.out.now.2.2.2.2.2.2.2.2.2.2.1) HL_ds.out Z13.out)
   go_wp2_with (go_at_call 21; (with_reducible refine HCON.out.mono ?_); rintro e w22 ⟨rfl, hb⟩; have HM22 := Aside0.mk (HM21.out.mv hb); have HB22 := Aside0.mk (below_step HB21.out hb); clear hb)
   clear HCON HM21 HB21; have HCON := Aside0.mk (spec_IsTriangulation.calls k n A_ds c_ds ds _ w22 (HM22.out.now.2.2.2.2.2.2.2.2.2.2.1) HL_ds.out Z14.out)
   go_wp2_with (go_at_call 22; (with_reducible refine HCON.out.mono ?_); rintro e w23 ⟨rfl, hb⟩; have HM23 := Aside0.mk (HM22.out.mv hb); have HB23 := Aside0.mk (below_step HB22.out hb); clear hb)
   clear HCON HM22 HB22; have HCON := Aside0.mk (impl_TriangulationOf.calls k A_q c_q q ds true w23 (HM23.out.now.2.2.2.2.2.2.2.2.2.1) HL_q.out Y1.out)
   go_wp2_with (go_at_call 23; (with_reducible refine HCON.out.mono ?_); rintro e w24 ⟨v_, rfl, ho, hb⟩; obtain ⟨A_back, c_back, e_, hl_back, hc_⟩ := Kd.R_reads ho; subst e_; have HM24 := Aside0.mk (HM23.out.add hb hc_); have HL_back := Aside0.mk hl_back; clear ho hc_ hl_back; have HB24 := Aside0.mk (below_step HB23.out hb); clear hb)
   clear HCON HM23 HB23; have HCON := Aside0.mk (impl_MirrorPolygon.calls k n A_mr c_mr mr ds true w24 (HM24.out.now.2.2.1) HL_mr.out Y2.out)
   go_wp2_with (go_at_call 16; (with_reducible refine HCON.out.mono ?_); rintro e w25 ⟨v_, rfl, ho, hb⟩; obtain ⟨A_again, c_again, e_, hl_again, hc_⟩ := Kd.R_reads ho; subst e_; have HM25 := Aside0.mk (HM24.out.add hb hc_); have HL_again := Aside0.mk hl_again; clear ho hc_ hl_again; have HB25 := Aside0.mk (below_step HB24.out hb); clear hb)
   clear HCON HM24 HB24; have HCON := Aside0.mk (impl_QuiddityOf.calls k n A_mr c_mr mr oth true w25 (HM25.out.now.2.2.2.1) HL_mr.out Y3.out)
   go_wp2_with (go_at_call 6; (with_reducible refine HCON.out.mono ?_); rintro e w26 ⟨v_, rfl, ho, hb⟩; obtain ⟨A_oth, c_oth, e_, hl_oth, hc_⟩ := Kd.R_reads ho; subst e_; have HM26 := Aside0.mk (HM25.out.add hb hc_); have HL_oth := Aside0.mk hl_oth; clear ho hc_ hl_oth; have HB26 := Aside0.mk (below_step HB25.out hb); clear hb)
   clear HCON HM25 HB25; have HCON := Aside0.mk (impl_IsQuiddity.calls k A_q c_q q true w26 (HM26.out.now.2.2.2.2.2.2.2.2.2.2.2.2.1) HL_q.out Y4.out)
   go_wp2_with (go_at_call 24; (with_reducible refine HCON.out.mono ?_); rintro e w27 ⟨rfl, hb⟩; have HM27 := Aside0.mk (HM26.out.mv hb); have HB27 := Aside0.mk (below_step HB26.out hb); clear hb)
   clear HCON HM26 HB26; have HCON := Aside0.mk (laws_uSum.calls k A_q c_q q (3 * n - 6) w27 (HM27.out.now.2.2.2.2.2.2.2.2.2.2.2.2.1) HL_q.out Y5.out)
   go_wp2_with (go_at_call 25; (with_reducible refine HCON.out.mono ?_); rintro e w28 ⟨rfl, hd⟩; have hb := Lw.below_of hd; clear hd; have HM28 := Aside0.mk (HM27.out.mv hb); have HB28 := Aside0.mk (below_step HB27.out hb); clear hb)
   clear HCON HM27 HB27
   rcases hd3 with ⟨hd3, he2⟩ | hd3 <;> (
    have HCON := Aside0.mk (laws_uCuts.calls k A_back c_back ds A_ds c_ds ds true w28 (HM28.out.now.2.2.1) HL_back.out (HM28.out.now.2.2.2.2.2.2.2.2.2.2.2.2.2.1) HL_ds.out Y6.out)
    go_wp2_with (go_at_call 20; (with_reducible refine HCON.out.mono ?_); rintro e w29 ⟨rfl, hd⟩; have hb := Lw.below_of hd; clear hd; have HM29 := Aside0.mk (HM28.out.mv hb); have HB29 := Aside0.mk (below_step HB28.out hb); clear hb)
    clear HCON HM28 HB28; have HCON := Aside0.mk (laws_uCuts.calls k A_again c_again ds A_ds c_ds ds true w29 (HM29.out.now.2.1) HL_again.out (HM29.out.now.2.2.2.2.2.2.2.2.2.2.2.2.2.1) HL_ds.out Y6.out)
    go_wp2_with (go_at_call 20; (with_reducible refine HCON.out.mono ?_); rintro e w30 ⟨rfl, hd⟩; have hb := Lw.below_of hd; clear hd; have HM30 := Aside0.mk (HM29.out.mv hb); have HB30 := Aside0.mk (below_step HB29.out hb); clear hb)
    clear HCON HM29 HB29; clear b1_ b2_ b3_ b4_ b5_ b6_ HNP
    go_loopg [37, 334] (b.length + 1) (fun kq v37 v334 w' => ∃ i : Nat, v334 = .int .i64 (i : Int) ∧ v37 = .int .i64 ((laws_FnQuidditiesTell.sm b i : Nat) : Int) ∧ Aside0 (i ≤ b.length ∧ kq + i = b.length + 1) ∧ Aside0 (Below w30.heap.size w30 w'))
    case atStart => exact ⟨0, rfl, rfl, ⟨⟨Nat.zero_le _, rfl⟩⟩, ⟨Below.refl _ _⟩⟩
    case round => as_aux_lemma =>
     obtain ⟨i, rfl, rfl, HI, HBr⟩ := hrel; obtain ⟨wB, rfl⟩ : ∃ x, x = wr := ⟨_, rfl⟩; obtain ⟨gB, rfl⟩ : ∃ x, x = gk := ⟨_, rfl⟩; have HMr := Aside0.mk (HM30.out.mv HBr.out)
     by_cases ci : i < b.length
     ·obtain ⟨hi0, hi1, cd⟩ := laws_FnQuidditiesTell.a3 ci
      obtain ⟨ad1, A_r, c_r, e1, hx1, hlr, hcr⟩ := laws_FnQuidditiesTell.at_row (HMr.out.now.2.2.2.2.2.2.1) (i : Int) hi0 hi1
      cases e1
      rw [Int.toNat_natCast] at hx1
      obtain ⟨row, hrow⟩ : ∃ row, laws_FnQuidditiesTell.row b (i : Int) = row := ⟨_, rfl⟩; rw [hrow] at hx1 hlr hcr
      obtain ⟨hsm, hi4, hrl⟩ := laws_FnQuidditiesTell.sb Y7.out.2.2.2.2.2.2.2.2.2 Y7.out.2.2.1 Y7.out.2.2.2.2.2.2.2.2.1 ci hrow; have HSM := Aside0.mk hsm; have HB1 := Aside0.mk (show ∀ j : Nat, j < row.length → 0 ≤ rd row j ∧ rd row j < (t.length : Int) ∧ rd row j < (b.length : Int) ∧ rd row j ≠ (i : Int) ∧ laws_uHas.f k (laws_FnQuidditiesTell.row b (rd row j)) i = some true from by have h_ := Y9.out i ci; rw [hrow] at h_; exact h_)
      have HRL := Aside0.mk hrl; have HCR := Aside0.mk hcr; have HLR := Aside0.mk hlr; replace hi0 := eq_true hi0; replace hi1 := eq_true hi1; have hg1 := laws_FnQuidditiesTell.a1 HI.out ci; clear hcr hlr hrl hrow ci hsm
      go_wp2
      go_loopg [345] (row.length + 1) (fun kq v345 w' => ∃ j : Nat, v345 = .int .i64 (j : Int) ∧ Aside0 (j ≤ row.length ∧ kq + j = row.length + 1) ∧ Aside0 (Below wB.heap.size wB w'))
      case atStart => exact ⟨0, rfl, ⟨⟨Nat.zero_le _, rfl⟩⟩, ⟨Below.refl _ _⟩⟩
      case round => as_aux_lemma =>
       obtain ⟨j, rfl, HJ, HBj⟩ := hrel
       by_cases cj : j < row.length
       ·obtain ⟨hj0, hj1, cdj⟩ := laws_FnQuidditiesTell.a3 cj
        have HMj := Aside0.mk (HMr.out.mv HBj.out); obtain ⟨ad2, e2, hx2⟩ := Kd.at_int (Kd.C_below HCR.out HBj.out) (j : Int) hj0 hj1
        cases e2
        rw [Int.toNat_natCast] at hx2
        obtain ⟨k1, k2, k3, k4, k5⟩ := HB1.out j cj; obtain ⟨x, hx⟩ : ∃ x, rd row (j : Int) = x := ⟨_, rfl⟩; rw [hx] at hx2 k1 k2 k3 k4 k5
        obtain ⟨ad3, A_s, c_s, e3, hx3, hls, hcs⟩ := laws_FnQuidditiesTell.at_row (HMj.out.now.2.2.2.2.2.2.1) x k1 k3
        cases e3
        obtain ⟨row2, hrow2⟩ : ∃ row2, laws_FnQuidditiesTell.row b x = row2 := ⟨_, rfl⟩; rw [hrow2] at hx3 hls hcs k5
        obtain ⟨f1, f2, f3⟩ := laws_FnQuidditiesTell.xb k1 k2 k4; have HCON := Aside0.mk (laws_uHas.calls k A_s c_s row2 (i : Int) true wr hcs hls k5); replace hj0 := eq_true hj0; replace hj1 := eq_true hj1; replace k1 := eq_true k1; replace k3 := eq_true k3; have hj4 := laws_FnQuidditiesTell.a4 cj HRL.out; have hg2 := laws_FnQuidditiesTell.a1 HJ.out cj; clear hx hrow2 hls hcs k2 k4 k5 cj
        go_wp2_with (go_at_call 26; (with_reducible refine HCON.out.mono ?_); rintro e wk ⟨rfl, hd⟩; have HBk := Aside0.mk (Lw.below_of hd); clear hd)
        go_roundg (gk - 1)
        case measure => exact hg2.1
        case rel => exact ⟨j + 1, by rw [laws_FnQuidditiesTell.a2]; first | rfl | rw [hj4], ⟨hg2.2⟩, ⟨below_step HBj.out HBk.out⟩⟩
       ·have cdj := laws_FnQuidditiesTell.a0 cj
        go_wp2
        go_roundg (gB - 1)
        case measure => exact hg1.1
        case rel => exact ⟨i + 1, by rw [laws_FnQuidditiesTell.a2]; first | rfl | rw [hi4], by first | rfl | rw [HSM.out], ⟨hg1.2⟩, ⟨below_step HBr.out HBj.out⟩⟩
     ·have cd := laws_FnQuidditiesTell.a0 ci
      obtain ⟨g1_, g2_, g3_⟩ := laws_FnQuidditiesTell.se Y7.out.2.2.2.2.2.2.2.2.2 ⟨Y7.out.2.1, Y7.out.2.2.1⟩ HI.out.1 ci; rw [g1_]; clear g1_
      go_wp2
      have HMb := Aside0.mk (HM30.out.mv HBr.out); have HBb := Aside0.mk (below_step HB30.out HBr.out); clear HMr HBr g2_ g3_ HB30
      go_loopg [380] (q.length + 1) (fun kq v380 w' => ∃ i : Nat, v380 = .int .i64 (i : Int) ∧ Aside0 (i ≤ q.length ∧ kq + i = q.length + 1) ∧ Aside0 (Below wB.heap.size wB w'))
      case atStart => exact ⟨0, rfl, ⟨⟨Nat.zero_le _, rfl⟩⟩, ⟨Below.refl _ _⟩⟩
      case round => as_aux_lemma =>
       clear HI; obtain ⟨i, rfl, HI, HBr⟩ := hrel; obtain ⟨wQ, rfl⟩ : ∃ x, x = wr := ⟨_, rfl⟩; obtain ⟨gQ, rfl⟩ : ∃ x, x = gk := ⟨_, rfl⟩; have HMr := Aside0.mk (HMb.out.mv HBr.out)
       by_cases ci : i < q.length
       ·obtain ⟨hi0, hi1, cd⟩ := laws_FnQuidditiesTell.a3 ci
        obtain ⟨ad1, e1, hx1⟩ := Kd.at_int (HMr.out.now.2.2.2.2.2.2.2.2.2.2.2.2.1) (i : Int) hi0 hi1
        cases e1
        rw [Int.toNat_natCast] at hx1
        obtain ⟨x, hx⟩ : ∃ x, rd q (i : Int) = x := ⟨_, rfl⟩; obtain ⟨k1, k2, k3, k4⟩ := Y10.out i ci; rw [hx] at hx1 k1 k2 k3
        obtain ⟨o0, o1, hw1, hw2, hi4⟩ := laws_FnQuidditiesTell.qf Y7.out.1 Y7.out.2.2.1 Y7.out.2.2.2.2.1 ci; obtain ⟨zi, hzi⟩ : ∃ zi, n - 1 - (i : Int) = zi := ⟨_, rfl⟩; have hw2' : wrap64 (n - 1 - (i : Int)) = zi := hw2.trans hzi; rw [hzi] at o0 o1 k3
        obtain ⟨ad4, e4, hx4⟩ := Kd.at_int (HMr.out.now.1) zi o0 o1
        cases e4
        obtain ⟨jn, hjn⟩ : ∃ jn, zi.toNat = jn := ⟨_, rfl⟩; rw [k3, hjn] at hx4
        obtain ⟨xb, hxb⟩ : ∃ xb, (x == 1) = xb := ⟨_, rfl⟩; rw [hxb] at k2
        have K1 := Aside0.mk k1; have K2 := Aside0.mk k2; have K4 := Aside0.mk k4; have hg1 := laws_FnQuidditiesTell.a1 HI.out ci; replace hi0 := eq_true hi0; replace hi1 := eq_true hi1; replace o0 := eq_true o0; replace o1 := eq_true o1; clear hx k1 k2 k3 k4 ci hw2 hzi
        go_wp2
        go_loopg [44, 387] (t.length + 1) (fun kq v44 v387 w' => ∃ mm : Nat, v387 = .int .i64 (mm : Int) ∧ v44 = .int .i64 ((laws_FnQuidditiesTell.cnt k t i mm : Nat) : Int) ∧ Aside0 (mm ≤ t.length ∧ kq + mm = t.length + 1) ∧ Aside0 (Below wQ.heap.size wQ w'))
        case atStart => exact ⟨0, rfl, rfl, ⟨⟨Nat.zero_le _, rfl⟩⟩, ⟨Below.refl _ _⟩⟩
        case round => as_aux_lemma =>
         obtain ⟨mm, rfl, rfl, HJ, HBj⟩ := hrel; have HMj := Aside0.mk (HMr.out.mv HBj.out)
         by_cases cj : mm < t.length
         ·obtain ⟨hj0, hj1, cdj⟩ := laws_FnQuidditiesTell.a3 cj
          obtain ⟨ad2, A_s, c_s, e2, hx2, hls, hcs⟩ := laws_FnQuidditiesTell.at_row (HMj.out.now.2.2.2.2.2.2.2.2.1) (mm : Int) hj0 hj1
          cases e2
          rw [Int.toNat_natCast] at hx2
          obtain ⟨bb, hbb⟩ := K4.out mm cj; obtain ⟨hc1, hc2, hj4⟩ := laws_FnQuidditiesTell.cs cj Y7.out.2.2.2.2.2.1 Y7.out.2.2.1 hbb; have HC1 := Aside0.mk hc1; have HC2 := Aside0.mk hc2; obtain ⟨row, hrow⟩ : ∃ row, laws_FnQuidditiesTell.row t (mm : Int) = row := ⟨_, rfl⟩; rw [hrow] at hx2 hls hcs hbb
          have HCON := Aside0.mk (laws_uHas.calls k A_s c_s row (i : Int) bb wr hcs hls hbb); replace hj0 := eq_true hj0; replace hj1 := eq_true hj1; have hg2 := laws_FnQuidditiesTell.a1 HJ.out cj; clear hrow hls hcs hbb hc1 hc2 cj
          cases bb with
          | true =>
           go_wp2_with (go_at_call 26; (with_reducible refine HCON.out.mono ?_); rintro e wk ⟨rfl, hd⟩; have HBk := Aside0.mk (Lw.below_of hd); clear hd)
           go_roundg (gk - 1)
           case measure => exact hg2.1
           case rel => exact ⟨mm + 1, by rw [laws_FnQuidditiesTell.a2]; first | rfl | rw [hj4], by first | rw [← HC1.out trivial] | rw [← HC1.out rfl], ⟨hg2.2⟩, ⟨below_step HBj.out HBk.out⟩⟩
          | false =>
           go_wp2_with (go_at_call 26; (with_reducible refine HCON.out.mono ?_); rintro e wk ⟨rfl, hd⟩; have HBk := Aside0.mk (Lw.below_of hd); clear hd)
           go_roundg (gk - 1)
           case measure => exact hg2.1
           case rel => exact ⟨mm + 1, by rw [laws_FnQuidditiesTell.a2]; first | rfl | rw [hj4], by first | rw [← HC2.out trivial] | rw [← HC2.out rfl], ⟨hg2.2⟩, ⟨below_step HBj.out HBk.out⟩⟩
         ·have cdj := laws_FnQuidditiesTell.a0 cj
          rw [laws_FnQuidditiesTell.ce HJ.out.1 cj K1.out]; have hx5 := (HBj.out.cell (World.block_lt_of_cell? wQ _ hx4)).trans hx4; have HCON := Aside0.mk (laws_uHas.calls k A_e c_e e (i : Int) xb wr (HMj.out.now.2.2.2.2.2.2.2.2.2.2.1) HL_e.out K2.out)
          cases xb <;> (
           go_wp2_with (go_at_call 26; (with_reducible refine HCON.out.mono ?_); rintro e wk ⟨rfl, hd⟩; have HBk := Aside0.mk (Lw.below_of hd); clear hd; have hx6 := (HBk.out.cell (World.block_lt_of_cell? wr _ hx5)).trans hx5)
           go_roundg (gQ - 1)
           case measure => exact hg1.1
           case rel => exact ⟨i + 1, by rw [laws_FnQuidditiesTell.a2]; first | rfl | rw [hi4], ⟨hg1.2⟩, ⟨below_step HBr.out (below_step HBj.out HBk.out)⟩⟩
          )
       ·have cd := laws_FnQuidditiesTell.a0 ci
        go_wp2
        have HMq := Aside0.mk (HMb.out.mv HBr.out); have HBq := Aside0.mk (below_step HBb.out HBr.out); clear HMr HBr HBb
        go_loopg [422] (ds.length + 1) (fun kq v422 w' => ∃ i : Nat, v422 = .int .i64 (i : Int) ∧ Aside0 (i ≤ ds.length ∧ kq + i = ds.length + 1) ∧ Aside0 (Below wQ.heap.size wQ w'))
        case atStart => exact ⟨0, rfl, ⟨⟨Nat.zero_le _, rfl⟩⟩, ⟨Below.refl _ _⟩⟩
        case round => as_aux_lemma =>
         clear HI; obtain ⟨i, rfl, HI, HBr⟩ := hrel; obtain ⟨wD, rfl⟩ : ∃ x, x = wr := ⟨_, rfl⟩; obtain ⟨gD, rfl⟩ : ∃ x, x = gk := ⟨_, rfl⟩; have HMr := Aside0.mk (HMq.out.mv HBr.out)
         by_cases ci : i < ds.length
         ·obtain ⟨hi0, hi1, cd⟩ := laws_FnQuidditiesTell.a3 ci
          obtain ⟨ad1, e1, hx0, hx1⟩ := at_T46 (HMr.out.now.2.2.2.2.2.2.2.2.2.2.2.2.2.1) (i : Int) hi0 hi1
          cases e1
          rw [Int.toNat_natCast] at hx0 hx1
          obtain ⟨d, hd_⟩ : ∃ d, rd_T46 ds (i : Int) = d := ⟨_, rfl⟩; obtain ⟨k1, k2⟩ := Y11.out i ci; rw [hd_] at hx0 hx1 k1
          have K1 := Aside0.mk k1; have K2 := Aside0.mk (show ∀ j : Nat, j < i → impl_DoCross.f n d.f0 d.f1 (rd_T46 ds j).f0 (rd_T46 ds j).f1 = some (false, true) from by rw [← hd_]; exact k2)
          have hi4 := laws_FnQuidditiesTell.a4 ci (Nat.le_trans Y7.out.2.2.2.2.2.2.1 (by decide))
          have hg1 := laws_FnQuidditiesTell.a1 HI.out ci; have CI := Aside0.mk ci; obtain ⟨u1, u2, u3⟩ := laws_FnQuidditiesTell.cu (Nat.le_trans (Nat.le_of_lt ci) HL_ds.out); replace hi0 := eq_true hi0; replace hi1 := eq_true hi1; clear k1 k2 hd_ ci
          go_wp2_with (first | ((with_reducible refine gate_dst (N := 48) rfl ?_); refine be_ #[.int .i64 0, .int .i64 0] 46 ?_; intro gv hg_ w9 hbox hb; have BK := Aside0.mk hbox; have HB9 := Aside0.mk hb; have HGV := Aside0.mk (Nat.le_of_eq hg_.symm); clear hb hbox hg_; have hcz0 := cz_ BK.out 0 (.int .i64 0); have hcz1 := cz_ BK.out 1 (.int .i64 0); have hfz0 := blk_frozen BK.out 0; have hfz1 := blk_frozen BK.out 1) | (go_at_call 27; (with_reducible refine (impl_IsDiagonal.calls n d.f0 d.f1 true _ K1.out).mono ?_); rintro e w10 ⟨rfl, hb2⟩; have HX10 := Aside0.mk (blk_below (g := gv) (o := .cells #[.int .i64 d.f0, .int .i64 d.f1] 46 (0, 0)) (by refine blk_put (cs := #[.int .i64 d.f0, .int .i64 0]) ?_ 1 _ rfl; exact blk_put (cs := #[.int .i64 0, .int .i64 0]) BK.out 0 _ rfl) hb2); have HBt := Aside0.mk (show Below wD.heap.size wD w10 from below_step (below_set (below_set HB9.out HGV.out) HGV.out) hb2); clear hb2))
          have hd0 : w10.cell? ⟨gv, 0, none⟩ = some (.int .i64 d.f0) := (blk_cell HX10.out 0).trans rfl; have hd1 : w10.cell? ⟨gv, 1, none⟩ = some (.int .i64 d.f1) := (blk_cell HX10.out 1).trans rfl; clear hcz0 hcz1 hfz0 hfz1 BK HB9 HGV hx0 hx1
          go_loopg [435] (i + 1) (fun kq v435 w' => ∃ j : Nat, v435 = .int .i64 (j : Int) ∧ Aside0 (j ≤ i ∧ kq + j = i + 1) ∧ Aside0 (Below w10.heap.size w10 w'))
          case atStart => exact ⟨0, rfl, ⟨⟨Nat.zero_le _, rfl⟩⟩, ⟨Below.refl _ _⟩⟩
          case round => as_aux_lemma =>
           obtain ⟨j, rfl, HJ, HBj⟩ := hrel
           by_cases cj : j < i
           ·obtain ⟨hj0, hj1, cdj⟩ := laws_FnQuidditiesTell.a3 cj
            have HMj := Aside0.mk ((HMr.out.mv HBt.out).mv HBj.out); obtain ⟨ad2, e2, hy0, hy1⟩ := at_T46 (HMj.out.now.2.2.2.2.2.2.2.2.2.2.2.2.2.1) (j : Int) hj0 (laws_FnQuidditiesTell.a3 (Nat.lt_trans cj CI.out)).2.1
            cases e2
            rw [Int.toNat_natCast] at hy0 hy1
            have k3 := K2.out j cj; obtain ⟨e, he⟩ : ∃ e, rd_T46 ds (j : Int) = e := ⟨_, rfl⟩; rw [he] at hy0 hy1 k3
            have K3 := Aside0.mk k3; have hv0 := (HBj.out.cell (World.block_lt_of_cell? w10 _ hd0)).trans hd0; have hv1 := (HBj.out.cell (World.block_lt_of_cell? w10 _ hd1)).trans hd1; have hj4 := laws_FnQuidditiesTell.a4 cj (Nat.le_trans (Nat.le_of_lt CI.out) (Nat.le_trans Y7.out.2.2.2.2.2.2.1 (by decide)))
            have hg2 := laws_FnQuidditiesTell.a1 HJ.out cj; replace hj0 := eq_true hj0; replace hj1 := eq_true hj1; clear he k3 cj hd0 hd1
            go_wp2_with (first | ((with_reducible refine gate_dst (N := 50) rfl ?_); refine be_ #[.int .i64 0, .int .i64 0] 46 ?_; intro gz hg_ w11 hbox hb; have BZ := Aside0.mk hbox; have HB11 := Aside0.mk hb; have HGZ := Aside0.mk (Nat.le_of_eq hg_.symm); clear hb hbox hg_; have hcy0 : w11.cell? ⟨gz, 0, none⟩ = some (.int .i64 0) := (blk_cell BZ.out 0).trans rfl; have hcy1 : w11.cell? ⟨gz, 1, none⟩ = some (.int .i64 0) := (blk_cell BZ.out 1).trans rfl; have hfy0 := blk_frozen BZ.out 0; have hfy1 := blk_frozen BZ.out 1; have HBz := Aside0.mk (show Below wr.heap.size wr ((w11.setCell ⟨gz, 0, none⟩ (.int .i64 e.f0)).setCell ⟨gz, 1, none⟩ (.int .i64 e.f1)) from below_set (below_set HB11.out HGZ.out) HGZ.out); have hw0 := (HBz.out.cell (World.block_lt_of_cell? wr _ hv0)).trans hv0; have hw1 := (HBz.out.cell (World.block_lt_of_cell? wr _ hv1)).trans hv1) | (go_at_call 28; (with_reducible refine (impl_DoCross.calls n d.f0 d.f1 e.f0 e.f1 false true _ K3.out).mono ?_); rintro e_ w12 ⟨rfl, hb2⟩; have HB12 := Aside0.mk (below_step HBz.out hb2); clear hb2))
            go_roundg (gk - 1)
            case measure => exact hg2.1
            case rel => exact ⟨j + 1, by rw [laws_FnQuidditiesTell.a2]; first | rfl | rw [hj4], ⟨hg2.2⟩, ⟨below_step HBj.out HB12.out⟩⟩
           ·have cdj := laws_FnQuidditiesTell.a0 cj
            go_wp2
            go_roundg (gD - 1)
            case measure => exact hg1.1
            case rel => exact ⟨i + 1, by rw [laws_FnQuidditiesTell.a2]; first | rfl | rw [hi4], ⟨hg1.2⟩, ⟨below_step HBr.out (below_step HBt.out HBj.out)⟩⟩
         ·have cd := laws_FnQuidditiesTell.a0 ci
          have HMd := Aside0.mk (HMq.out.mv HBr.out); have HBd := Aside0.mk (below_step HBq.out HBr.out); clear HMr HBr HBq; have HCON := Aside0.mk (spec_DrawTurnPolygon.calls k A_m c_m l1 m es kk wD (HMd.out.now.2.2.2.2.2.2.2.2.2.2.2.2.2.2.1) HL_m.out HD2.out)
          go_wp2_with (go_at_call 29; (with_reducible refine HCON.out.mono ?_); rintro e w31 ⟨v_, rfl, ho, hb⟩; obtain ⟨A_es, c_es, e_, hl_es, hc_⟩ := Kd.R_reads ho; subst e_; have HM31 := Aside0.mk (HMd.out.add hb hc_); have HL_es := Aside0.mk hl_es; clear ho hc_ hl_es; have HB31 := Aside0.mk (below_step HBd.out hb); clear hb)
          clear HCON HMd HBd
          cases ok2 with
          | false =>
           have HCON := Aside0.mk (impl_TurnPolygon.calls k m A_es c_es es kk tr false w31 (HM31.out.now.1) HL_es.out T1.out)
           go_wp2_with (go_at_call 30; (with_reducible refine HCON.out.mono ?_); rintro e w32 ⟨v_, rfl, ho, hb⟩; obtain ⟨A_tr, c_tr, e_, hl_tr, hc_⟩ := Kd.R_reads ho; subst e_; have HM32 := Aside0.mk (HM31.out.add hb hc_); have HL_tr := Aside0.mk hl_tr; clear ho hc_ hl_tr; have HB32 := Aside0.mk (below_step HB31.out hb); clear hb)
           clear HCON HM31 HB31; have HCON := Aside0.mk (spec_TurnPolygon.calls k m A_es c_es es kk tr false w32 (HM32.out.now.2.1) HL_es.out T2.out)
           go_wp2_with (go_at_call 31; (with_reducible refine HCON.out.mono ?_); rintro e w33 ⟨v_, rfl, ho, hb⟩; obtain ⟨A_tr2, c_tr2, e_, hl_tr2, hc_⟩ := Kd.R_reads ho; subst e_; have HM33 := Aside0.mk (HM32.out.add hb hc_); have HL_tr2 := Aside0.mk hl_tr2; clear ho hc_ hl_tr2; have HB33 := Aside0.mk (below_step HB32.out hb); clear hb)
           clear HCON HM32 HB32; have HCON := Aside0.mk (laws_uCuts.calls k A_tr c_tr tr A_tr2 c_tr2 tr true w33 (HM33.out.now.2.1) HL_tr.out (HM33.out.now.1) HL_tr2.out T3.out)
           go_wp2_with (go_at_call 20; (with_reducible refine HCON.out.mono ?_); rintro e w34 ⟨rfl, hd⟩; have hb := Lw.below_of hd; clear hd; have HM34 := Aside0.mk (HM33.out.mv hb); have HB34 := Aside0.mk (below_step HB33.out hb); clear hb)
           clear HCON HM33 HB33
           go_ret
           exact ⟨rfl, HB34.out⟩
          | true =>
           obtain ⟨a, b', x1, x2, x3, x4, x5, x6, x7, x8, x9, x10, x11⟩ := TK.out rfl; have X1 := Aside0.mk x1; have X2 := Aside0.mk x2; have X3 := Aside0.mk x3; have X4 := Aside0.mk x4; have XB := Aside0.mk (show 3 ≤ m ∧ m ≤ 1000 ∧ 0 ≤ kk ∧ kk < m ∧ (a.length : Int) = m ∧ (b'.length : Int) = m from ⟨x5, x6, x7, x8, x9, x10⟩)
           have X11 := Aside0.mk x11; clear x1 x2 x3 x4 x5 x6 x7 x8 x9 x10 x11 TK; have HCON := Aside0.mk (impl_TurnPolygon.calls k m A_es c_es es kk tr true w31 (HM31.out.now.1) HL_es.out T1.out)
           go_wp2_with (go_at_call 30; (with_reducible refine HCON.out.mono ?_); rintro e w35 ⟨v_, rfl, ho, hb⟩; obtain ⟨A_tr, c_tr, e_, hl_tr, hc_⟩ := Kd.R_reads ho; subst e_; have HM35 := Aside0.mk (HM31.out.add hb hc_); have HL_tr := Aside0.mk hl_tr; clear ho hc_ hl_tr; have HB35 := Aside0.mk (below_step HB31.out hb); clear hb)
           clear HCON HM31 HB31; have HCON := Aside0.mk (spec_TurnPolygon.calls k m A_es c_es es kk tr true w35 (HM35.out.now.2.1) HL_es.out T2.out)
           go_wp2_with (go_at_call 31; (with_reducible refine HCON.out.mono ?_); rintro e w36 ⟨v_, rfl, ho, hb⟩; obtain ⟨A_tr2, c_tr2, e_, hl_tr2, hc_⟩ := Kd.R_reads ho; subst e_; have HM36 := Aside0.mk (HM35.out.add hb hc_); have HL_tr2 := Aside0.mk hl_tr2; clear ho hc_ hl_tr2; have HB36 := Aside0.mk (below_step HB35.out hb); clear hb)
           clear HCON HM35 HB35; have HCON := Aside0.mk (laws_uCuts.calls k A_tr c_tr tr A_tr2 c_tr2 tr true w36 (HM36.out.now.2.1) HL_tr.out (HM36.out.now.1) HL_tr2.out T3.out)
           go_wp2_with (go_at_call 20; (with_reducible refine HCON.out.mono ?_); rintro e w37 ⟨rfl, hd⟩; have hb := Lw.below_of hd; clear hd; have HM37 := Aside0.mk (HM36.out.mv hb); have HB37 := Aside0.mk (below_step HB36.out hb); clear hb)
           clear HCON HM36 HB36; have HCON := Aside0.mk (impl_QuiddityOf.calls k m A_es c_es es a true w37 (HM37.out.now.2.2.1) HL_es.out X1.out)
           go_wp2_with (go_at_call 6; (with_reducible refine HCON.out.mono ?_); rintro e w38 ⟨v_, rfl, ho, hb⟩; obtain ⟨A_a, c_a, e_, hl_a, hc_⟩ := Kd.R_reads ho; subst e_; have HM38 := Aside0.mk (HM37.out.add hb hc_); have HL_a := Aside0.mk hl_a; clear ho hc_ hl_a; have HB38 := Aside0.mk (below_step HB37.out hb); clear hb)
           clear HCON HM37 HB37; obtain ⟨hm0, hmk⟩ := laws_FnQuidditiesTell.mk ⟨XB.out.1, XB.out.2.1, XB.out.2.2.1, XB.out.2.2.2.1⟩; have HCON := Aside0.mk (impl_QuiddityOf.calls k m A_tr c_tr tr b' true w38 (HM38.out.now.2.2.1) HL_tr.out X2.out)
           go_wp2_with (go_at_call 6; (with_reducible refine HCON.out.mono ?_); rintro e w39 ⟨v_, rfl, ho, hb⟩; obtain ⟨A_b', c_b', e_, hl_b', hc_⟩ := Kd.R_reads ho; subst e_; have HM39 := Aside0.mk (HM38.out.add hb hc_); have HL_b' := Aside0.mk hl_b'; clear ho hc_ hl_b'; have HB39 := Aside0.mk (below_step HB38.out hb); clear hb)
           clear HCON HM38 HB38; have HCON := Aside0.mk (impl_TurnPolygon.calls k m A_tr c_tr tr ((m - kk).tmod m) es true w39 (HM39.out.now.2.2.2.1) HL_tr.out X3.out)
           go_wp2_with (go_at_call 30; (with_reducible refine HCON.out.mono ?_); rintro e w40 ⟨v_, rfl, ho, hb⟩; obtain ⟨A_home, c_home, e_, hl_home, hc_⟩ := Kd.R_reads ho; subst e_; have HM40 := Aside0.mk (HM39.out.add hb hc_); have HL_home := Aside0.mk hl_home; clear ho hc_ hl_home; have HB40 := Aside0.mk (below_step HB39.out hb); clear hb)
           clear HCON HM39 HB39; have HCON := Aside0.mk (laws_uCuts.calls k A_home c_home es A_es c_es es true w40 (HM40.out.now.1) HL_home.out (HM40.out.now.2.2.2.2.2.1) HL_es.out X4.out)
           go_wp2_with (go_at_call 20; (with_reducible refine HCON.out.mono ?_); rintro e w41 ⟨rfl, hd⟩; have hb := Lw.below_of hd; clear hd; have HM41 := Aside0.mk (HM40.out.mv hb); have HB41 := Aside0.mk (below_step HB40.out hb); clear hb)
           clear HCON HM40 HB40
           go_loopg [524] (a.length + 1) (fun kq v524 w' => ∃ i : Nat, v524 = .int .i64 (i : Int) ∧ Aside0 (i ≤ a.length ∧ kq + i = a.length + 1) ∧ Aside0 (Below w41.heap.size w41 w'))
           case atStart => exact ⟨0, rfl, ⟨⟨Nat.zero_le _, rfl⟩⟩, ⟨Below.refl _ _⟩⟩
           case round => as_aux_lemma =>
            obtain ⟨i, rfl, HI, HBr⟩ := hrel
            by_cases ci : i < a.length
            ·obtain ⟨hj0, hj1, hik, hi4, hi0, hi1, cd⟩ := laws_FnQuidditiesTell.tf XB.out ci
             have HMr := Aside0.mk (HM41.out.mv HBr.out); obtain ⟨z, hz⟩ : ∃ z, rd a (i : Int) = z := ⟨_, rfl⟩; obtain ⟨ad1, e1, hx1⟩ := Kd.at_int (HMr.out.now.2.2.1) (i : Int) hi0 hi1; obtain ⟨ad2, e2, hx2⟩ := Kd.at_int (HMr.out.now.2.1) (((i : Int) + kk).tmod m) hj0 hj1
             cases e1
             cases e2
             rw [X11.out i ci, hz] at hx2
             rw [hz] at hx1
             replace hi0 := eq_true hi0; replace hi1 := eq_true hi1; have hi2 := eq_true hj0; have hi3 := eq_true hj1; rw [Int.toNat_natCast] at hx1
             obtain ⟨jn, hjn⟩ : ∃ jn, (((i : Int) + kk).tmod m).toNat = jn := ⟨_, rfl⟩; rw [hjn] at hx2
             have hg1 := laws_FnQuidditiesTell.a1 HI.out ci; clear hj0 hj1 ci
             go_wp2
             refine start_ (n := 13) (S := fun w' => w'.cell? (ad1.add i) = some (.int .i64 z) ∧ w'.cell? (ad2.add jn) = some (.int .i64 z)) (ds := []) #[false, false, false, false, false, false, false, false, false, false, false, false, false] (by kernel_rfl) rfl rfl ⟨hx1, hx2⟩ (fun hHeld => ?_)
             refine pure_ (i := 0) (N := some 527) (v := ?_) (a' := ?_) #[true, false, false, false, false, false, false, false, false, false, false, false, false] rfl rfl (by kernel_rfl) (fun _ _ _ h => h) (Or.inl ⟨by rfl, ?_⟩) ?_ ?_
             rotate_left
             ·intro w'
              go_simp
              with_reducible rfl
             rotate_left
             ·simp only [Act.put, List.setIfInBounds_toArray, List.set_cons_zero, List.set_cons_succ, i64_w, i32_w]
              rfl
             refine pure_ (i := 1) (N := some 528) (v := ?_) (a' := ?_) #[true, true, false, false, false, false, false, false, false, false, false, false, false] rfl rfl (by kernel_rfl) (fun _ _ _ h => h) (Or.inl ⟨by rfl, ?_⟩) ?_ ?_
             rotate_left
             ·intro w'
              go_simp
              with_reducible rfl
             rotate_left
             ·simp only [Act.put, List.setIfInBounds_toArray, List.set_cons_zero, List.set_cons_succ, i64_w, i32_w]
              rfl
             refine pure_ (i := 2) (N := some 529) (v := ?_) (a' := ?_) #[true, true, true, false, false, false, false, false, false, false, false, false, false] rfl rfl (by kernel_rfl) (fun _ _ _ h => h) (Or.inl ⟨by rfl, ?_⟩) ?_ ?_
             rotate_left
             ·intro w'
              go_simp
              with_reducible rfl
             rotate_left
             ·simp only [Act.put, List.setIfInBounds_toArray, List.set_cons_zero, List.set_cons_succ, i64_w, i32_w]
              rfl
             refine pure_ (i := 3) (N := some 530) (v := ?_) (a' := ?_) #[true, true, true, true, false, false, false, false, false, false, false, false, false] rfl rfl (by kernel_rfl) (fun _ _ _ h => h) (Or.inl ⟨by rfl, ?_⟩) ?_ ?_
             rotate_left
             ·intro w'
              go_simp
              with_reducible rfl
             rotate_left
             ·simp only [Act.put, List.setIfInBounds_toArray, List.set_cons_zero, List.set_cons_succ, i64_w, i32_w]
              rfl
             refine pure_ (i := 4) (N := some 531) (v := ?_) (a' := ?_) #[true, true, true, true, true, false, false, false, false, false, false, false, false] rfl rfl (by kernel_rfl) (fun _ _ _ h => h) (Or.inl ⟨by rfl, ?_⟩) ?_ ?_
             rotate_left
             ·intro w'
              go_simp
              with_reducible rfl
             rotate_left
             ·simp only [Act.put, List.setIfInBounds_toArray, List.set_cons_zero, List.set_cons_succ, i64_w, i32_w]
              rfl
             refine pure_ (i := 5) (N := some 532) (v := ?_) (a' := ?_) #[true, true, true, true, true, true, false, false, false, false, false, false, false] rfl rfl (by kernel_rfl) (fun _ _ _ h => h) (Or.inl ⟨by rfl, ?_⟩) ?_ ?_
             rotate_left
             ·intro w'
              go_simp
              with_reducible rfl
             rotate_left
             ·simp only [Act.put, List.setIfInBounds_toArray, List.set_cons_zero, List.set_cons_succ, i64_w, i32_w]
              rfl
             refine pure_ (i := 6) (N := some 533) (v := ?_) (a' := ?_) #[true, true, true, true, true, true, true, false, false, false, false, false, false] rfl rfl (by kernel_rfl) (fun _ _ _ h => h) (Or.inl ⟨by rfl, ?_⟩) ?_ ?_
             rotate_left
             ·intro w'
              go_simp
              with_reducible rfl
             rotate_left
             ·simp only [Act.put, List.setIfInBounds_toArray, List.set_cons_zero, List.set_cons_succ, i64_w, i32_w]
              rfl
             refine take_ (i := 7) (N := some 534) (v := ?_) (a' := ?_) #[true, true, true, true, true, true, true, true, false, false, false, false, false] rfl rfl (by kernel_rfl) (fun _ _ _ h => h) (Or.inl ⟨by rfl, ?_⟩) hHeld ?_ ?_
             rotate_left
             ·rintro w' ⟨s0, s1⟩
              go_simp
              with_reducible rfl
             rotate_left
             ·simp only [Act.put, List.setIfInBounds_toArray, List.set_cons_zero, List.set_cons_succ, i64_w, i32_w]
              rfl
             refine pure_ (i := 8) (N := some 535) (v := ?_) (a' := ?_) #[true, true, true, true, true, true, true, true, true, false, false, false, false] rfl rfl (by kernel_rfl) (fun _ _ _ h => h) (Or.inl ⟨by rfl, ?_⟩) ?_ ?_
             rotate_left
             ·intro w'
              go_simp
              with_reducible rfl
             rotate_left
             ·simp only [Act.put, List.setIfInBounds_toArray, List.set_cons_zero, List.set_cons_succ, i64_w, i32_w]
              rfl
             refine pure_ (i := 9) (N := some 536) (v := ?_) (a' := ?_) #[true, true, true, true, true, true, true, true, true, true, false, false, false] rfl rfl (by kernel_rfl) (fun _ _ _ h => h) (Or.inl ⟨by rfl, ?_⟩) ?_ ?_
             rotate_left
             ·intro w'
              go_simp
              with_reducible rfl
             rotate_left
             ·simp only [Act.put, List.setIfInBounds_toArray, List.set_cons_zero, List.set_cons_succ, i64_w, i32_w]
              rfl
             refine pure_ (i := 10) (N := some 537) (v := ?_) (a' := ?_) #[true, true, true, true, true, true, true, true, true, true, true, false, false] rfl rfl (by kernel_rfl) (fun _ _ _ h => h) (Or.inl ⟨by rfl, ?_⟩) ?_ ?_
             rotate_left
             ·intro w'
              go_simp
              with_reducible rfl
             rotate_left
             ·simp only [Act.put, List.setIfInBounds_toArray, List.set_cons_zero, List.set_cons_succ, i64_w, i32_w]
              rfl
             refine take_ (i := 11) (N := some 538) (v := ?_) (a' := ?_) #[true, true, true, true, true, true, true, true, true, true, true, true, false] rfl rfl (by kernel_rfl) (fun _ _ _ h => h) (Or.inl ⟨by rfl, ?_⟩) hHeld ?_ ?_
             rotate_left
             ·rintro w' ⟨s0, s1⟩
              go_simp
              with_reducible rfl
             rotate_left
             ·simp only [Act.put, List.setIfInBounds_toArray, List.set_cons_zero, List.set_cons_succ, i64_w, i32_w]
              rfl
             refine pure_ (i := 12) (N := some 539) (v := ?_) (a' := ?_) #[true, true, true, true, true, true, true, true, true, true, true, true, true] rfl rfl (by kernel_rfl) (fun _ _ _ h => h) (Or.inl ⟨by rfl, ?_⟩) ?_ ?_
             rotate_left
             ·intro w'
              go_simp
              with_reducible rfl
             rotate_left
             ·simp only [Act.put, List.setIfInBounds_toArray, List.set_cons_zero, List.set_cons_succ, i64_w, i32_w]
              rfl
             refine done_ (by kernel_rfl) ?_
             go_wp2
             go_roundg (gk - 1)
             case measure => exact hg1.1
             case rel => exact ⟨i + 1, by rw [laws_FnQuidditiesTell.a2]; first | rfl | rw [hi4], ⟨hg1.2⟩, ⟨below_drew1 HBr.out⟩⟩
            ·have cd : decide ((i : Int) < (a.length : Int)) = false := laws_FnQuidditiesTell.a0 ci
             go_wp2
             go_ret
             exact ⟨rfl, below_step HB41.out HBr.out⟩
    )
  | false =>
   simp only [List.append_eq, List.cons_append, List.nil_append]
   have HCON := Aside0.mk (laws_uSame.calls k A_q c_q q A_q2 c_q2 q true w15 (HM15.out.now.2.2.2.2.2.2.2.2.2.1) HL_q.out (HM15.out.now.2.2.2.2.2.2.2.2.1) HL_q2.out Z15.out)
   go_wp2_with (go_at_call 18; (with_reducible refine HCON.out.mono ?_); rintro e w42 ⟨rfl, hd⟩; have hb := Lw.below_of hd; clear hd; have HM42 := Aside0.mk (HM15.out.mv hb); have HB42 := Aside0.mk (below_step HB15.out hb); clear hb)
   clear HCON HM15 HB15; have HCON := Aside0.mk (laws_uSame.calls k A_e c_e e A_e2 c_e2 e true w42 (HM42.out.now.2.2.2.2.2.2.2.1) HL_e.out (HM42.out.now.2.2.2.2.2.2.1) HL_e2.out Z16.out)
   go_wp2_with (go_at_call 18; (with_reducible refine HCON.out.mono ?_); rintro e w43 ⟨rfl, hd⟩; have hb := Lw.below_of hd; clear hd; have HM43 := Aside0.mk (HM42.out.mv hb); have HB43 := Aside0.mk (below_step HB42.out hb); clear hb)
   clear HCON HM42 HB42; have HCON := Aside0.mk (laws_uRows.calls k A_t c_t t A_t2 c_t2 t true w43 (HM43.out.now.2.2.2.2.2.1) HL_t.out (HM43.out.now.2.2.2.2.1) HL_t2.out Z17.out)
   go_wp2_with (go_at_call 19; (with_reducible refine HCON.out.mono ?_); rintro e w44 ⟨rfl, hd⟩; have hb := Lw.below_of hd; clear hd; have HM44 := Aside0.mk (HM43.out.mv hb); have HB44 := Aside0.mk (below_step HB43.out hb); clear hb)
   clear HCON HM43 HB43; have HCON := Aside0.mk (laws_uRows.calls k A_b c_b b A_b2 c_b2 b true w44 (HM44.out.now.2.2.2.1) HL_b.out (HM44.out.now.2.2.1) HL_b2.out Z18.out)
   go_wp2_with (go_at_call 19; (with_reducible refine HCON.out.mono ?_); rintro e w45 ⟨rfl, hd⟩; have hb := Lw.below_of hd; clear hd; have HM45 := Aside0.mk (HM44.out.mv hb); have HB45 := Aside0.mk (below_step HB44.out hb); clear hb)
   clear HCON HM44 HB44; have HCON := Aside0.mk (laws_uCuts.calls k A_mr c_mr mr A_mr2 c_mr2 mr true w45 (HM45.out.now.2.1) HL_mr.out (HM45.out.now.1) HL_mr2.out Z19.out)
   go_wp2_with (go_at_call 20; (with_reducible refine HCON.out.mono ?_); rintro e w46 ⟨rfl, hd⟩; have hb := Lw.below_of hd; clear hd; have HM46 := Aside0.mk (HM45.out.mv hb); have HB46 := Aside0.mk (below_step HB45.out hb); clear hb)
   clear HCON HM45 HB45; have HCON := Aside0.mk (impl_IsTriangulation.calls k n A_ds c_ds ds _ w46 (HM46.out.now.2.2.2.2.2.2.2.2.2.2.1) HL_ds.out Z13.out)
   go_wp2_with (go_at_call 21; (with_reducible refine HCON.out.mono ?_); rintro e w47 ⟨rfl, hb⟩; have HM47 := Aside0.mk (HM46.out.mv hb); have HB47 := Aside0.mk (below_step HB46.out hb); clear hb)
   clear HCON HM46 HB46; have HCON := Aside0.mk (impl_IsTriangulation.calls k n A_ds c_ds ds _ w47 (HM47.out.now.2.2.2.2.2.2.2.2.2.2.1) HL_ds.out Z13.out)
   go_wp2_with (go_at_call 21; (with_reducible refine HCON.out.mono ?_); rintro e w48 ⟨rfl, hb⟩; have HM48 := Aside0.mk (HM47.out.mv hb); have HB48 := Aside0.mk (below_step HB47.out hb); clear hb)
   clear HCON HM47 HB47; have HCON := Aside0.mk (spec_IsTriangulation.calls k n A_ds c_ds ds _ w48 (HM48.out.now.2.2.2.2.2.2.2.2.2.2.1) HL_ds.out Z14.out)
   go_wp2_with (go_at_call 22; (with_reducible refine HCON.out.mono ?_); rintro e w49 ⟨rfl, hb⟩; have HM49 := Aside0.mk (HM48.out.mv hb); have HB49 := Aside0.mk (below_step HB48.out hb); clear hb)
   clear HCON HM48 HB48; have HCON := Aside0.mk (spec_DrawTurnPolygon.calls k A_m c_m l1 m es kk w49 (HM49.out.now.2.2.2.2.2.2.2.2.2.2.2.1) HL_m.out HD2.out)
   go_wp2_with (go_at_call 29; (with_reducible refine HCON.out.mono ?_); rintro e w50 ⟨v_, rfl, ho, hb⟩; obtain ⟨A_es, c_es, e_, hl_es, hc_⟩ := Kd.R_reads ho; subst e_; have HM50 := Aside0.mk (HM49.out.add hb hc_); have HL_es := Aside0.mk hl_es; clear ho hc_ hl_es; have HB50 := Aside0.mk (below_step HB49.out hb); clear hb)
   clear HCON HM49 HB49
   cases ok2 with
   | false =>
    have HCON := Aside0.mk (impl_TurnPolygon.calls k m A_es c_es es kk tr false w50 (HM50.out.now.1) HL_es.out T1.out)
    go_wp2_with (go_at_call 30; (with_reducible refine HCON.out.mono ?_); rintro e w51 ⟨v_, rfl, ho, hb⟩; obtain ⟨A_tr, c_tr, e_, hl_tr, hc_⟩ := Kd.R_reads ho; subst e_; have HM51 := Aside0.mk (HM50.out.add hb hc_); have HL_tr := Aside0.mk hl_tr; clear ho hc_ hl_tr; have HB51 := Aside0.mk (below_step HB50.out hb); clear hb)
    clear HCON HM50 HB50; have HCON := Aside0.mk (spec_TurnPolygon.calls k m A_es c_es es kk tr false w51 (HM51.out.now.2.1) HL_es.out T2.out)
    go_wp2_with (go_at_call 31; (with_reducible refine HCON.out.mono ?_); rintro e w52 ⟨v_, rfl, ho, hb⟩; obtain ⟨A_tr2, c_tr2, e_, hl_tr2, hc_⟩ := Kd.R_reads ho; subst e_; have HM52 := Aside0.mk (HM51.out.add hb hc_); have HL_tr2 := Aside0.mk hl_tr2; clear ho hc_ hl_tr2; have HB52 := Aside0.mk (below_step HB51.out hb); clear hb)
    clear HCON HM51 HB51; have HCON := Aside0.mk (laws_uCuts.calls k A_tr c_tr tr A_tr2 c_tr2 tr true w52 (HM52.out.now.2.1) HL_tr.out (HM52.out.now.1) HL_tr2.out T3.out)
    go_wp2_with (go_at_call 20; (with_reducible refine HCON.out.mono ?_); rintro e w53 ⟨rfl, hd⟩; have hb := Lw.below_of hd; clear hd; have HM53 := Aside0.mk (HM52.out.mv hb); have HB53 := Aside0.mk (below_step HB52.out hb); clear hb)
    clear HCON HM52 HB52
    go_ret
    exact ⟨rfl, HB53.out⟩
   | true =>
    obtain ⟨a, b', x1, x2, x3, x4, x5, x6, x7, x8, x9, x10, x11⟩ := TK.out rfl; have X1 := Aside0.mk x1; have X2 := Aside0.mk x2; have X3 := Aside0.mk x3; have X4 := Aside0.mk x4; have XB := Aside0.mk (show 3 ≤ m ∧ m ≤ 1000 ∧ 0 ≤ kk ∧ kk < m ∧ (a.length : Int) = m ∧ (b'.length : Int) = m from ⟨x5, x6, x7, x8, x9, x10⟩)
    have X11 := Aside0.mk x11; clear x1 x2 x3 x4 x5 x6 x7 x8 x9 x10 x11 TK; have HCON := Aside0.mk (impl_TurnPolygon.calls k m A_es c_es es kk tr true w50 (HM50.out.now.1) HL_es.out T1.out)
    go_wp2_with (go_at_call 30; (with_reducible refine HCON.out.mono ?_); rintro e w54 ⟨v_, rfl, ho, hb⟩; obtain ⟨A_tr, c_tr, e_, hl_tr, hc_⟩ := Kd.R_reads ho; subst e_; have HM54 := Aside0.mk (HM50.out.add hb hc_); have HL_tr := Aside0.mk hl_tr; clear ho hc_ hl_tr; have HB54 := Aside0.mk (below_step HB50.out hb); clear hb)
    clear HCON HM50 HB50; have HCON := Aside0.mk (spec_TurnPolygon.calls k m A_es c_es es kk tr true w54 (HM54.out.now.2.1) HL_es.out T2.out)
    go_wp2_with (go_at_call 31; (with_reducible refine HCON.out.mono ?_); rintro e w55 ⟨v_, rfl, ho, hb⟩; obtain ⟨A_tr2, c_tr2, e_, hl_tr2, hc_⟩ := Kd.R_reads ho; subst e_; have HM55 := Aside0.mk (HM54.out.add hb hc_); have HL_tr2 := Aside0.mk hl_tr2; clear ho hc_ hl_tr2; have HB55 := Aside0.mk (below_step HB54.out hb); clear hb)
    clear HCON HM54 HB54; have HCON := Aside0.mk (laws_uCuts.calls k A_tr c_tr tr A_tr2 c_tr2 tr true w55 (HM55.out.now.2.1) HL_tr.out (HM55.out.now.1) HL_tr2.out T3.out)
    go_wp2_with (go_at_call 20; (with_reducible refine HCON.out.mono ?_); rintro e w56 ⟨rfl, hd⟩; have hb := Lw.below_of hd; clear hd; have HM56 := Aside0.mk (HM55.out.mv hb); have HB56 := Aside0.mk (below_step HB55.out hb); clear hb)
    clear HCON HM55 HB55; have HCON := Aside0.mk (impl_QuiddityOf.calls k m A_es c_es es a true w56 (HM56.out.now.2.2.1) HL_es.out X1.out)
    go_wp2_with (go_at_call 6; (with_reducible refine HCON.out.mono ?_); rintro e w57 ⟨v_, rfl, ho, hb⟩; obtain ⟨A_a, c_a, e_, hl_a, hc_⟩ := Kd.R_reads ho; subst e_; have HM57 := Aside0.mk (HM56.out.add hb hc_); have HL_a := Aside0.mk hl_a; clear ho hc_ hl_a; have HB57 := Aside0.mk (below_step HB56.out hb); clear hb)
    clear HCON HM56 HB56; obtain ⟨hm0, hmk⟩ := laws_FnQuidditiesTell.mk ⟨XB.out.1, XB.out.2.1, XB.out.2.2.1, XB.out.2.2.2.1⟩; have HCON := Aside0.mk (impl_QuiddityOf.calls k m A_tr c_tr tr b' true w57 (HM57.out.now.2.2.1) HL_tr.out X2.out)
    go_wp2_with (go_at_call 6; (with_reducible refine HCON.out.mono ?_); rintro e w58 ⟨v_, rfl, ho, hb⟩; obtain ⟨A_b', c_b', e_, hl_b', hc_⟩ := Kd.R_reads ho; subst e_; have HM58 := Aside0.mk (HM57.out.add hb hc_); have HL_b' := Aside0.mk hl_b'; clear ho hc_ hl_b'; have HB58 := Aside0.mk (below_step HB57.out hb); clear hb)
    clear HCON HM57 HB57; have HCON := Aside0.mk (impl_TurnPolygon.calls k m A_tr c_tr tr ((m - kk).tmod m) es true w58 (HM58.out.now.2.2.2.1) HL_tr.out X3.out)
    go_wp2_with (go_at_call 30; (with_reducible refine HCON.out.mono ?_); rintro e w59 ⟨v_, rfl, ho, hb⟩; obtain ⟨A_home, c_home, e_, hl_home, hc_⟩ := Kd.R_reads ho; subst e_; have HM59 := Aside0.mk (HM58.out.add hb hc_); have HL_home := Aside0.mk hl_home; clear ho hc_ hl_home; have HB59 := Aside0.mk (below_step HB58.out hb); clear hb)
    clear HCON HM58 HB58; have HCON := Aside0.mk (laws_uCuts.calls k A_home c_home es A_es c_es es true w59 (HM59.out.now.1) HL_home.out (HM59.out.now.2.2.2.2.2.1) HL_es.out X4.out)
    go_wp2_with (go_at_call 20; (with_reducible refine HCON.out.mono ?_); rintro e w60 ⟨rfl, hd⟩; have hb := Lw.below_of hd; clear hd; have HM60 := Aside0.mk (HM59.out.mv hb); have HB60 := Aside0.mk (below_step HB59.out hb); clear hb)
    clear HCON HM59 HB59
    go_loopg [524] (a.length + 1) (fun kq v524 w' => ∃ i : Nat, v524 = .int .i64 (i : Int) ∧ Aside0 (i ≤ a.length ∧ kq + i = a.length + 1) ∧ Aside0 (Below w60.heap.size w60 w'))
    case atStart => exact ⟨0, rfl, ⟨⟨Nat.zero_le _, rfl⟩⟩, ⟨Below.refl _ _⟩⟩
    case round => as_aux_lemma =>
     obtain ⟨i, rfl, HI, HBr⟩ := hrel
     by_cases ci : i < a.length
     ·obtain ⟨hj0, hj1, hik, hi4, hi0, hi1, cd⟩ := laws_FnQuidditiesTell.tf XB.out ci
      have HMr := Aside0.mk (HM60.out.mv HBr.out); obtain ⟨z, hz⟩ : ∃ z, rd a (i : Int) = z := ⟨_, rfl⟩; obtain ⟨ad1, e1, hx1⟩ := Kd.at_int (HMr.out.now.2.2.1) (i : Int) hi0 hi1; obtain ⟨ad2, e2, hx2⟩ := Kd.at_int (HMr.out.now.2.1) (((i : Int) + kk).tmod m) hj0 hj1
      cases e1
      cases e2
      rw [X11.out i ci, hz] at hx2
      rw [hz] at hx1
      replace hi0 := eq_true hi0; replace hi1 := eq_true hi1; have hi2 := eq_true hj0; have hi3 := eq_true hj1; rw [Int.toNat_natCast] at hx1
      obtain ⟨jn, hjn⟩ : ∃ jn, (((i : Int) + kk).tmod m).toNat = jn := ⟨_, rfl⟩; rw [hjn] at hx2
      have hg1 := laws_FnQuidditiesTell.a1 HI.out ci; clear hj0 hj1 ci
      go_wp2
      refine start_ (n := 13) (S := fun w' => w'.cell? (ad1.add i) = some (.int .i64 z) ∧ w'.cell? (ad2.add jn) = some (.int .i64 z)) (ds := []) #[false, false, false, false, false, false, false, false, false, false, false, false, false] (by kernel_rfl) rfl rfl ⟨hx1, hx2⟩ (fun hHeld => ?_)
      refine pure_ (i := 0) (N := some 527) (v := ?_) (a' := ?_) #[true, false, false, false, false, false, false, false, false, false, false, false, false] rfl rfl (by kernel_rfl) (fun _ _ _ h => h) (Or.inl ⟨by rfl, ?_⟩) ?_ ?_
      rotate_left
      ·intro w'
       go_simp
       with_reducible rfl
      rotate_left
      ·simp only [Act.put, List.setIfInBounds_toArray, List.set_cons_zero, List.set_cons_succ, i64_w, i32_w]
       rfl
      refine pure_ (i := 1) (N := some 528) (v := ?_) (a' := ?_) #[true, true, false, false, false, false, false, false, false, false, false, false, false] rfl rfl (by kernel_rfl) (fun _ _ _ h => h) (Or.inl ⟨by rfl, ?_⟩) ?_ ?_
      rotate_left
      ·intro w'
       go_simp
       with_reducible rfl
      rotate_left
      ·simp only [Act.put, List.setIfInBounds_toArray, List.set_cons_zero, List.set_cons_succ, i64_w, i32_w]
       rfl
      refine pure_ (i := 2) (N := some 529) (v := ?_) (a' := ?_) #[true, true, true, false, false, false, false, false, false, false, false, false, false] rfl rfl (by kernel_rfl) (fun _ _ _ h => h) (Or.inl ⟨by rfl, ?_⟩) ?_ ?_
      rotate_left
      ·intro w'
       go_simp
       with_reducible rfl
      rotate_left
      ·simp only [Act.put, List.setIfInBounds_toArray, List.set_cons_zero, List.set_cons_succ, i64_w, i32_w]
       rfl
      refine pure_ (i := 3) (N := some 530) (v := ?_) (a' := ?_) #[true, true, true, true, false, false, false, false, false, false, false, false, false] rfl rfl (by kernel_rfl) (fun _ _ _ h => h) (Or.inl ⟨by rfl, ?_⟩) ?_ ?_
      rotate_left
      ·intro w'
       go_simp
       with_reducible rfl
      rotate_left
      ·simp only [Act.put, List.setIfInBounds_toArray, List.set_cons_zero, List.set_cons_succ, i64_w, i32_w]
       rfl
      refine pure_ (i := 4) (N := some 531) (v := ?_) (a' := ?_) #[true, true, true, true, true, false, false, false, false, false, false, false, false] rfl rfl (by kernel_rfl) (fun _ _ _ h => h) (Or.inl ⟨by rfl, ?_⟩) ?_ ?_
      rotate_left
      ·intro w'
       go_simp
       with_reducible rfl
      rotate_left
      ·simp only [Act.put, List.setIfInBounds_toArray, List.set_cons_zero, List.set_cons_succ, i64_w, i32_w]
       rfl
      refine pure_ (i := 5) (N := some 532) (v := ?_) (a' := ?_) #[true, true, true, true, true, true, false, false, false, false, false, false, false] rfl rfl (by kernel_rfl) (fun _ _ _ h => h) (Or.inl ⟨by rfl, ?_⟩) ?_ ?_
      rotate_left
      ·intro w'
       go_simp
       with_reducible rfl
      rotate_left
      ·simp only [Act.put, List.setIfInBounds_toArray, List.set_cons_zero, List.set_cons_succ, i64_w, i32_w]
       rfl
      refine pure_ (i := 6) (N := some 533) (v := ?_) (a' := ?_) #[true, true, true, true, true, true, true, false, false, false, false, false, false] rfl rfl (by kernel_rfl) (fun _ _ _ h => h) (Or.inl ⟨by rfl, ?_⟩) ?_ ?_
      rotate_left
      ·intro w'
       go_simp
       with_reducible rfl
      rotate_left
      ·simp only [Act.put, List.setIfInBounds_toArray, List.set_cons_zero, List.set_cons_succ, i64_w, i32_w]
       rfl
      refine take_ (i := 7) (N := some 534) (v := ?_) (a' := ?_) #[true, true, true, true, true, true, true, true, false, false, false, false, false] rfl rfl (by kernel_rfl) (fun _ _ _ h => h) (Or.inl ⟨by rfl, ?_⟩) hHeld ?_ ?_
      rotate_left
      ·rintro w' ⟨s0, s1⟩
       go_simp
       with_reducible rfl
      rotate_left
      ·simp only [Act.put, List.setIfInBounds_toArray, List.set_cons_zero, List.set_cons_succ, i64_w, i32_w]
       rfl
      refine pure_ (i := 8) (N := some 535) (v := ?_) (a' := ?_) #[true, true, true, true, true, true, true, true, true, false, false, false, false] rfl rfl (by kernel_rfl) (fun _ _ _ h => h) (Or.inl ⟨by rfl, ?_⟩) ?_ ?_
      rotate_left
      ·intro w'
       go_simp
       with_reducible rfl
      rotate_left
      ·simp only [Act.put, List.setIfInBounds_toArray, List.set_cons_zero, List.set_cons_succ, i64_w, i32_w]
       rfl
      refine pure_ (i := 9) (N := some 536) (v := ?_) (a' := ?_) #[true, true, true, true, true, true, true, true, true, true, false, false, false] rfl rfl (by kernel_rfl) (fun _ _ _ h => h) (Or.inl ⟨by rfl, ?_⟩) ?_ ?_
      rotate_left
      ·intro w'
       go_simp
       with_reducible rfl
      rotate_left
      ·simp only [Act.put, List.setIfInBounds_toArray, List.set_cons_zero, List.set_cons_succ, i64_w, i32_w]
       rfl
      refine pure_ (i := 10) (N := some 537) (v := ?_) (a' := ?_) #[true, true, true, true, true, true, true, true, true, true, true, false, false] rfl rfl (by kernel_rfl) (fun _ _ _ h => h) (Or.inl ⟨by rfl, ?_⟩) ?_ ?_
      rotate_left
      ·intro w'
       go_simp
       with_reducible rfl
      rotate_left
      ·simp only [Act.put, List.setIfInBounds_toArray, List.set_cons_zero, List.set_cons_succ, i64_w, i32_w]
       rfl
      refine take_ (i := 11) (N := some 538) (v := ?_) (a' := ?_) #[true, true, true, true, true, true, true, true, true, true, true, true, false] rfl rfl (by kernel_rfl) (fun _ _ _ h => h) (Or.inl ⟨by rfl, ?_⟩) hHeld ?_ ?_
      rotate_left
      ·rintro w' ⟨s0, s1⟩
       go_simp
       with_reducible rfl
      rotate_left
      ·simp only [Act.put, List.setIfInBounds_toArray, List.set_cons_zero, List.set_cons_succ, i64_w, i32_w]
       rfl
      refine pure_ (i := 12) (N := some 539) (v := ?_) (a' := ?_) #[true, true, true, true, true, true, true, true, true, true, true, true, true] rfl rfl (by kernel_rfl) (fun _ _ _ h => h) (Or.inl ⟨by rfl, ?_⟩) ?_ ?_
      rotate_left
      ·intro w'
       go_simp
       with_reducible rfl
      rotate_left
      ·simp only [Act.put, List.setIfInBounds_toArray, List.set_cons_zero, List.set_cons_succ, i64_w, i32_w]
       rfl
      refine done_ (by kernel_rfl) ?_
      go_wp2
      go_roundg (gk - 1)
      case measure => exact hg1.1
      case rel => exact ⟨i + 1, by rw [laws_FnQuidditiesTell.a2]; first | rfl | rw [hi4], ⟨hg1.2⟩, ⟨below_drew1 HBr.out⟩⟩
     ·have cd : decide ((i : Int) < (a.length : Int)) = false := laws_FnQuidditiesTell.a0 ci
      go_wp2
      go_ret
      exact ⟨rfl, below_step HB60.out HBr.out⟩
def laws_FnQuidditiesTell.Pure : Prop := ∀ (l0 : List Int) (l1 : List Int), l0.length ≤ 9223372036854775807 → (∀ x ∈ l0, (Lit.int .u8 x).wf = true) → l1.length ≤ 9223372036854775807 → (∀ x ∈ l1, (Lit.int .u8 x).wf = true) → ∃ k, laws_FnQuidditiesTell.f k l0 l1
end Go.Proofs.YtobddjeefcoikaaGreat.PFnQuidditiesTell
