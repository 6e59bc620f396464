-- Written for this claim by a program of this session (wip/tools/xprint.py over the kit's printer, wip/tools/shrink.py).
import Derived.Test.YtcfcnnnkpdhecaaGreatPFnContinuantsSplitx0
import Derived.Test.YtcfcnnnkpdhecaaGreatPFnContinuantsSplitx1
import Derived.Test.YtcfcnnnkpdhecaaGreatPFnContinuantsSplitx2
namespace Go.Proofs.YtcfcnnnkpdhecaaGreat.PFnContinuantsSplit
open Go.RowKit Go.Proofs.YtcfcnnnkpdhecaaGreatW.PrintWords Go.Proofs.YtcfcnnnkpdhecaaGreatW.PrintLast Go.Proofs.YtcfcnnnkpdhecaaGreatW.PrintMore
attribute [local go_sem] max2_int min2_int max_two min_two max_three min_three max_four min_four   -- for this text's walks alone
set_option linter.unusedVariables false
set_option linter.unusedSimpArgs false
def spec_ctFraction.l0 : Nat → List Int → Int → Int → Int → Int → Option (Int × Int × Bool)
 | 0, _, _, _, _, _ => none
 | k + 1, x0, x1, x7, x8, x9 => if x9 ≥ 0 then (if x7 = 0 then (some (0, 0, false)) else (if 0 ≤ x9 then (if x9 < (x0.length : Int) then (if x7 < 0 then (spec_ctFraction.l0 k x0 x1 (wrap64 (-(wrap64 ((wrap64 ((rd x0 x9) * x7)) + (wrap64 (x1 * x8)))))) (wrap64 (-x7)) (wrap64 (x9 - 1))) else (spec_ctFraction.l0 k x0 x1 (wrap64 ((wrap64 ((rd x0 x9) * x7)) + (wrap64 (x1 * x8)))) x7 (wrap64 (x9 - 1)))) else (none)) else (none))) else (some (x7, x8, true))
def spec_ctFraction.f (k : Nat) (l0 : List Int) (a1 : Int) : Option (Int × Int × Bool) := if 0 ≤ (wrap64 ((l0.length : Int) - 1)) then (if (wrap64 ((l0.length : Int) - 1)) < (l0.length : Int) then (spec_ctFraction.l0 k l0 a1 (rd l0 (wrap64 ((l0.length : Int) - 1))) 1 (wrap64 ((l0.length : Int) - 2))) else (none)) else (none)
set_option maxHeartbeats 8000000 in
set_option maxRecDepth 100000 in
theorem spec_ctFraction.calls (k : Nat) (A0 : Option Addr) (c0 : Nat) (l0 : List Int) (a1 : Int) (r1 : Int) (r2 : Int) (r3 : Bool) (w : World) (hr0 : Kd.C (Kd.int .i64) w A0 l0.length l0) (hc0 : l0.length ≤ c0) (h : spec_ctFraction.f k l0 a1 = some (r1, r2, r3)) :
  Calls Tryz.prog 40 #[.slice A0 l0.length c0, .int .i64 a1] w fun e w' => e = .returned (.tuple #[.int .i64 r1, .int .i64 r2, .bool r3]) ∧ Drawn0 w w' := by
 have HR0 := Aside0.mk hr0; have HC0 := Aside0.mk hc0; clear hr0 hc0; have H : (if 0 ≤ (wrap64 ((l0.length : Int) - 1)) then (if (wrap64 ((l0.length : Int) - 1)) < (l0.length : Int) then (spec_ctFraction.l0 k l0 a1 (rd l0 (wrap64 ((l0.length : Int) - 1))) 1 (wrap64 ((l0.length : Int) - 2))) else (none)) else (none)) = some (r1, r2, r3) := h
 clear h; obtain ⟨ji3, hji3⟩ : ∃ j_ : Int, (wrap64 ((l0.length : Int) - 1)) = j_ := ⟨_, rfl⟩; replace H : (if 0 ≤ (ji3) then (if (ji3) < (l0.length : Int) then (spec_ctFraction.l0 k l0 a1 (rd l0 (ji3)) 1 (wrap64 ((l0.length : Int) - 2))) else (none)) else (none)) = some (r1, r2, r3) := by first | (rw [hji3] at H; exact H) | (simp only [hji3] at H ⊢; exact H)
 have hji3w : (IntKind.i64.wrap ((l0.length : Int) - 1)) = ji3 := (i64_w _).trans hji3
 by_cases c4 : 0 ≤ (ji3)
 ·rw [if_pos c4] at H
  have c4b0 : decide (0 ≤ (ji3)) = true := decide_eq_true c4; clear c4
  by_cases c5 : (ji3) < (l0.length : Int)
  ·rw [if_pos c5] at H
   have c5b0 : decide ((ji3) < (l0.length : Int)) = true := decide_eq_true c5; clear c5; have H' := Aside0.mk H; clear H; have p237 : 0 ≤ ((ji3) : Int) := of_decide_eq_true as_; have q237 : (ji3) < (l0.length : Int) := of_decide_eq_true as_; obtain ⟨ad237, e237, hx237_0⟩ := Kd.at_int HR0.out (ji3) p237 q237
   cases e237
   replace p237 := eq_true p237; replace q237 := eq_true q237
   go_enter Tryz.func40, Tryz.ntmps40
   go_wp2
   go_loopg [7, 8, 9] k (fun kq v7 v8 v9 w' => ∃ (x7_1 : Int) (x8_1 : Int) (x9_1 : Int), v7 = .int .i64 x7_1 ∧ v8 = .int .i64 x8_1 ∧ v9 = .int .i64 x9_1 ∧ Aside0 (spec_ctFraction.l0 kq l0 a1 x7_1 x8_1 x9_1 = some (r1, r2, r3)) ∧ Aside0 (kq ≤ k) ∧ Drawn0 w w')
   case atStart => exact ⟨(rd l0 (ji3)), (1), (wrap64 ((l0.length : Int) - 2)), (by first | rfl | (simp; done) | (simp only [← hji3] <;> (first | rfl | simp)) | (simp [*]; done)), (fs_), (fs_), H', ⟨Nat.le_refl _⟩, dr_⟩
   case round =>
    clear H'
    try clear p2
    try clear q2
    try clear hx2
    try clear c4
    try clear c4b0
    try clear c5
    try clear c5b0
    try clear hx237_0
    try clear p237
    try clear q237
    obtain ⟨x7_1, x8_1, x9_1, rfl, rfl, rfl, HA, HK1, ⟨m1, rfl⟩⟩ := hrel
    cases gk with
    | zero => exact absurd HA.out (by simp [spec_ctFraction.l0])
    | succ k1 =>
     have H := HA.out; clear HA
     simp only [spec_ctFraction.l0] at H
     by_cases c6 : x9_1 ≥ 0
     ·rw [if_pos c6] at H
      have c6b0 : decide (0 ≤ x9_1) = true := decide_eq_true c6; clear c6
      by_cases c7 : x7_1 = 0
      ·rw [if_pos c7] at H
       have c7b0 : (x7_1 == 0) = true := beq_iff_eq.mpr c7; have c7b1 : (x7_1 != 0) = false := bne_eq_false_iff_eq.mpr c7; clear c7
       simp only [Option.some.injEq, Prod.mk.injEq] at H
       obtain ⟨rfl, rfl, rfl⟩ := H
       go_wp2
       go_ret3
       exact ⟨by first | rfl | (simp; done) | (simp only [← hji3] <;> (first | rfl | simp)) | (simp [*]; done), dr_⟩
      ·rw [if_neg c7] at H
       have c7b0 : (x7_1 == 0) = false := beq_eq_false_iff_ne.mpr c7; have c7b1 : (x7_1 != 0) = true := bne_iff_ne.mpr c7
       by_cases c8 : 0 ≤ x9_1
       ·rw [if_pos c8] at H
        have c8b0 : decide (0 ≤ x9_1) = true := decide_eq_true c8; clear c8
        by_cases c9 : x9_1 < (l0.length : Int)
        ·rw [if_pos c9] at H
         have c9b0 : decide (x9_1 < (l0.length : Int)) = true := decide_eq_true c9; clear c9
         by_cases c10 : x7_1 < 0
         ·rw [if_pos c10] at H
          have c10b0 : decide (x7_1 < 0) = true := decide_eq_true c10; clear c10; have H' := Aside0.mk H; clear H; have p238 : 0 ≤ (x9_1 : Int) := of_decide_eq_true as_; have q238 : x9_1 < (l0.length : Int) := of_decide_eq_true as_; obtain ⟨ad238, e238, hx238_0⟩ := Kd.at_int HR0.out x9_1 p238 q238; obtain rfl : ad237 = ad238 := (by injection e238)
          replace p238 := eq_true p238; replace q238 := eq_true q238
          go_wp2
          go_roundg k1
          case measure => have := HK1.out; omega
          case rel => exact ⟨(wrap64 (-(wrap64 ((wrap64 ((rd l0 x9_1) * x7_1)) + (wrap64 (a1 * x8_1)))))), (wrap64 (-x7_1)), (wrap64 (x9_1 - 1)), (fs_), (fs_), (fs_), H', ⟨by have := HK1.out; omega⟩, dr_⟩
         ·rw [if_neg c10] at H
          have c10b0 : decide (x7_1 < 0) = false := decide_eq_false c10; clear c10; have H' := Aside0.mk H; clear H; have p238 : 0 ≤ (x9_1 : Int) := of_decide_eq_true as_; have q238 : x9_1 < (l0.length : Int) := of_decide_eq_true as_; obtain ⟨ad238, e238, hx238_0⟩ := Kd.at_int HR0.out x9_1 p238 q238; obtain rfl : ad237 = ad238 := (by injection e238)
          replace p238 := eq_true p238; replace q238 := eq_true q238
          go_wp2
          go_roundg k1
          case measure => have := HK1.out; omega
          case rel => exact ⟨(wrap64 ((wrap64 ((rd l0 x9_1) * x7_1)) + (wrap64 (a1 * x8_1)))), (x7_1), (wrap64 (x9_1 - 1)), (fs_), (fs_), (fs_), H', ⟨by have := HK1.out; omega⟩, dr_⟩
        ·rw [if_neg c9] at H
         exact absurd H (by simp)
       ·rw [if_neg c8] at H
        exact absurd H (by simp)
     ·rw [if_neg c6] at H
      have c6b0 : decide (0 ≤ x9_1) = false := decide_eq_false c6; clear c6
      simp only [Option.some.injEq, Prod.mk.injEq] at H
      obtain ⟨rfl, rfl, rfl⟩ := H
      go_wp2
      go_ret3
      exact ⟨by first | rfl | (simp; done) | (simp only [← hji3] <;> (first | rfl | simp)) | (simp [*]; done), dr_⟩
  ·rw [if_neg c5] at H
   exact absurd H (by simp)
 ·rw [if_neg c4] at H
  exact absurd H (by simp)
def spec_FractionOfMinus.f (k : Nat) (l0 : List Int) : Option (Int × Int × Bool) := (spec_ctGood.f k l0).bind fun t239 => (if t239 = true then (if (l0.length : Int) = 0 then (some (0, 0, false)) else ((spec_ctFraction.f k l0 (-1)).bind fun bt240 => (some (bt240.1, bt240.2.1, bt240.2.2)))) else (some (0, 0, false)))
set_option maxHeartbeats 8000000 in
set_option maxRecDepth 100000 in
theorem spec_FractionOfMinus.calls (k : Nat) (A0 : Option Addr) (c0 : Nat) (l0 : List Int) (r1 : Int) (r2 : Int) (r3 : Bool) (w : World) (hr0 : Kd.C (Kd.int .i64) w A0 l0.length l0) (hc0 : l0.length ≤ c0) (h : spec_FractionOfMinus.f k l0 = some (r1, r2, r3)) :
  Calls Tryz.prog 15 #[.slice A0 l0.length c0] w fun e w' => e = .returned (.tuple #[.int .i64 r1, .int .i64 r2, .bool r3]) ∧ Drawn0 w w' := by
 have HR0 := Aside0.mk hr0; have HC0 := Aside0.mk hc0; clear hr0 hc0; have H : ((spec_ctGood.f k l0).bind fun t239 => (if t239 = true then (if (l0.length : Int) = 0 then (some (0, 0, false)) else ((spec_ctFraction.f k l0 (-1)).bind fun bt240 => (some (bt240.1, bt240.2.1, bt240.2.2)))) else (some (0, 0, false)))) = some (r1, r2, r3) := h
 clear h; replace H := Option.bind_eq_some_iff.mp H; obtain ⟨t239, A20, H⟩ := H; have A2 := Aside0.mk A20; clear A20
 by_cases c3 : t239 = true
 ·subst c3
  rw [if_pos rfl] at H
  by_cases c4 : (l0.length : Int) = 0
  ·rw [if_pos c4] at H
   have c4b0 : ((l0.length : Int) == 0) = true := beq_iff_eq.mpr c4; have c4b1 : ((l0.length : Int) != 0) = false := bne_eq_false_iff_eq.mpr c4; clear c4
   simp only [Option.some.injEq, Prod.mk.injEq] at H
   obtain ⟨rfl, rfl, rfl⟩ := H
   go_enter Tryz.func15, Tryz.ntmps15
   go_wp2_with (first | ((with_reducible refine gate_callee (f := 34) rfl ?_); refine gl_ (some 6) Tryz.func34 #[.slice A0 l0.length c0] rfl ?_; (with_reducible refine (spec_ctGood.calls k _ _ l0 true _ ?side1 ?side2 A2.out).mono ?_); (case side1 => exact cc_ HR0.out); (case side2 => exact HC0.out); rintro e w' ⟨rfl, ⟨nd, rfl⟩⟩; refine ⟨_, rfl, ?_⟩))
   go_ret3
   exact ⟨fs_, dr_⟩
  ·rw [if_neg c4] at H
   have c4b0 : ((l0.length : Int) == 0) = false := beq_eq_false_iff_ne.mpr c4; have c4b1 : ((l0.length : Int) != 0) = true := bne_iff_ne.mpr c4; have c4b2 : ¬ (l0 = []) := fun h_ => c4 (by rw [h_]; rfl)
   replace H := Option.bind_eq_some_iff.mp H; obtain ⟨⟨t240, t241, t242⟩, A50, H⟩ := H; have A5 := Aside0.mk A50; clear A50
   simp only [Option.some.injEq, Prod.mk.injEq] at H
   obtain ⟨rfl, rfl, rfl⟩ := H
   go_enter Tryz.func15, Tryz.ntmps15
   go_wp2_with (first | ((with_reducible refine gate_callee (f := 34) rfl ?_); refine gl_ (some 6) Tryz.func34 #[.slice A0 l0.length c0] rfl ?_; (with_reducible refine (spec_ctGood.calls k _ _ l0 true _ ?side1 ?side2 A2.out).mono ?_); (case side1 => exact cc_ HR0.out); (case side2 => exact HC0.out); rintro e w' ⟨rfl, ⟨nd, rfl⟩⟩; refine ⟨_, rfl, ?_⟩) | ((with_reducible refine gate_callee (f := 40) rfl ?_); refine gl_ (some 14) Tryz.func40 #[.slice A0 l0.length c0, .int .i64 (-1)] rfl ?_; (with_reducible refine (spec_ctFraction.calls k _ _ l0 (-1) t240 t241 t242 _ ?side1 ?side2 A5.out).mono ?_); (case side1 => exact cc_ HR0.out); (case side2 => exact HC0.out); rintro e w' ⟨rfl, ⟨nd, rfl⟩⟩; refine ⟨_, rfl, ?_⟩))
   go_ret3
   exact ⟨fs_, dr_⟩
 ·replace c3 := Bool.eq_false_iff.mpr c3
  subst c3; rw [if_neg (show ¬ (false = true) by decide)] at H
  simp only [Option.some.injEq, Prod.mk.injEq] at H
  obtain ⟨rfl, rfl, rfl⟩ := H
  go_enter Tryz.func15, Tryz.ntmps15
  go_wp2_with (first | ((with_reducible refine gate_callee (f := 34) rfl ?_); refine gl_ (some 6) Tryz.func34 #[.slice A0 l0.length c0] rfl ?_; (with_reducible refine (spec_ctGood.calls k _ _ l0 false _ ?side1 ?side2 A2.out).mono ?_); (case side1 => exact cc_ HR0.out); (case side2 => exact HC0.out); rintro e w' ⟨rfl, ⟨nd, rfl⟩⟩; refine ⟨_, rfl, ?_⟩))
  go_ret3
  exact ⟨fs_, dr_⟩
def spec_IsTermList.f (k : Nat) (l0 : List Int) : Option (Bool) := (spec_ctGood.f k l0).bind fun t248 => (some t248)
set_option maxHeartbeats 8000000 in
set_option maxRecDepth 100000 in
theorem spec_IsTermList.calls (k : Nat) (A0 : Option Addr) (c0 : Nat) (l0 : List Int) (r : Bool) (w : World) (hr0 : Kd.C (Kd.int .i64) w A0 l0.length l0) (hc0 : l0.length ≤ c0) (h : spec_IsTermList.f k l0 = some r) :
  Calls Tryz.prog 19 #[.slice A0 l0.length c0] w fun e w' => e = .returned (.bool r) ∧ Drawn0 w w' := by
 have HR0 := Aside0.mk hr0; have HC0 := Aside0.mk hc0; clear hr0 hc0; have H : ((spec_ctGood.f k l0).bind fun t248 => (some t248)) = some r := h
 clear h; replace H := Option.bind_eq_some_iff.mp H; obtain ⟨t248, A20, H⟩ := H; have A2 := Aside0.mk A20; clear A20; obtain rfl := Option.some.inj H
 go_enter Tryz.func19, Tryz.ntmps19
 go_wp2_with (first | ((with_reducible refine gate_callee (f := 34) rfl ?_); refine gl_ (some 4) Tryz.func34 #[.slice A0 l0.length c0] rfl ?_; (with_reducible refine (spec_ctGood.calls k _ _ l0 t248 _ ?side1 ?side2 A2.out).mono ?_); (case side1 => exact cc_ HR0.out); (case side2 => exact HC0.out); rintro e w' ⟨rfl, ⟨nd, rfl⟩⟩; refine ⟨_, rfl, ?_⟩))
 go_ret
 exact ⟨fs_, dr_⟩
def spec_DrawPutOne.f (k : Nat) (l0 : List Int) : Option (List Int × Int) := (spec_l1Cur_terms.f k l0 0 0 (-2) 4).bind fun b => (spec_l1Cur_pick.f l0 b.2.1 b.2.2 (wrap64 ((b.1.length : Int) + 2))).bind fun p => (spec_l1Cur_pick.f l0 p.2.1 p.2.2 2).bind fun q => some (b.1, wrap64 (p.1 - q.1))
set_option maxHeartbeats 8000000 in
set_option maxRecDepth 100000 in
theorem spec_DrawPutOne.calls (k : Nat) (A0 : Option Addr) (c0 : Nat) (l0 : List Int) (r1 : List Int) (r2 : Int) (w : World) (hr0 : Kd.C (Kd.int .u8) w A0 l0.length l0) (hc0 : l0.length ≤ c0) (h : spec_DrawPutOne.f k l0 = some (r1, r2)) :
  Calls Tryz.prog 45 #[.slice A0 l0.length c0] w fun e w' => ∃ v0_ : Value, e = .returned (.tuple #[v0_, .int .i64 r2]) ∧ Kd.R (Kd.int .i64) 3 w' w.heap.size (fun _ => True) v0_ r1 ∧ Below w.heap.size w w' := by
 have HR := Aside0.mk hr0
 unfold spec_DrawPutOne.f at h
 obtain ⟨⟨b1, b2, b3⟩, hb, h⟩ := Option.bind_eq_some_iff.1 h; obtain ⟨⟨p1, p2, p3⟩, hp, h⟩ := Option.bind_eq_some_iff.1 h; obtain ⟨⟨q1, q2, q3⟩, hq, h⟩ := Option.bind_eq_some_iff.1 h
 cases h
 have HP := Aside0.mk hb; have HP2 := Aside0.mk hp; have HP3 := Aside0.mk hq; clear hr0 hc0 hb hp hq
 go_enter Tryz.func45, Tryz.ntmps45
 go_wp2_with (first | ((with_reducible refine gate_dst (N := 8) rfl ?_); refine be_ #[.slice A0 l0.length c0, .int .i64 0, .int .u64 0] 60 ?_; intro g hg w1 hbox hb; have HI := Aside0.mk (show IsS60 w w1 g l0 0 0 from ⟨A0, c0, hbox, Nat.le_of_eq hg.symm, HR.out⟩); have HB1 := Aside0.mk hb; clear hb hbox hg) | (go_at_call 54; (with_reducible refine (spec_l1Cur_terms.calls k g l0 0 0 (-2) 4 b1 b2 b3 w w1 HI.out HB1.out HP.out).mono ?_); rintro e w2 ⟨v, rfl, ho, hI2, hb2, hk2⟩; have HO := Aside0.mk ho; have HI2 := Aside0.mk hI2; have HB2 := Aside0.mk hb2; clear ho hI2 hb2 hk2; obtain ⟨Ao, co, eo⟩ := Kd.R_slice HO.out; subst eo) | (go_at_call 49; (with_reducible refine (spec_l1Cur_pick.calls g l0 b2 b3 (wrap64 ((b1.length : Int) + 2)) p1 p2 p3 w w2 HI2.out HB2.out HP2.out).mono ?_); rintro e w3 ⟨rfl, hI3, hb3, hk3⟩; have HO3 := Aside0.mk (Kd.R_keep (IsS60.apart HI2.out HO.out (by decide)) hk3 (fun _ hk => hk.2)); have HI3 := Aside0.mk hI3; have HB3 := Aside0.mk hb3; clear hI3 hb3 hk3) | (go_at_call 49; (with_reducible refine (spec_l1Cur_pick.calls g l0 p2 p3 2 q1 q2 q3 w w3 HI3.out HB3.out HP3.out).mono ?_); rintro e w4 ⟨rfl, hI4, hb4, hk4⟩; have HO4 := Aside0.mk (Kd.R_keep HO3.out hk4 (fun _ hk => hk.2)); have HB4 := Aside0.mk hb4; clear hI4 hb4 hk4))
 go_ret2
 exact ⟨_, rfl, Kd.R_mono (Kd.R_lower HO4.out HB1.out.size) (fun _ _ => trivial), HB4.out⟩
def spec_DrawSplitContinuant.f (k : Nat) (l0 : List Int) : Option (List Int × Int) := (spec_DrawPutOne.f k l0).bind fun bt277 => (some (bt277.1, bt277.2))
set_option maxHeartbeats 8000000 in
set_option maxRecDepth 100000 in
theorem spec_DrawSplitContinuant.calls (k : Nat) (A0 : Option Addr) (c0 : Nat) (l0 : List Int) (r1 : List Int) (r2 : Int) (w : World) (hr0 : Kd.C (Kd.int .u8) w A0 l0.length l0) (hc0 : l0.length ≤ c0) (h : spec_DrawSplitContinuant.f k l0 = some (r1, r2)) :
  Calls Tryz.prog 24 #[.slice A0 l0.length c0] w fun e w' => ∃ v0_ : Value, e = .returned (.tuple #[v0_, .int .i64 r2]) ∧ Kd.R (Kd.int .i64) 3 w' w.heap.size (fun _ => True) v0_ r1 ∧ Below w.heap.size w w' := by
 have HR0 := Aside0.mk hr0; have HC0 := Aside0.mk hc0; clear hr0 hc0; have HB := Aside0.mk (Below.refl w.heap.size w); have H : ((spec_DrawPutOne.f k l0).bind fun bt277 => (some (bt277.1, bt277.2))) = some (r1, r2) := h
 clear h; replace H := Option.bind_eq_some_iff.mp H; obtain ⟨⟨t277, t278⟩, A20, H⟩ := H; have A2 := Aside0.mk A20; clear A20
 simp only [Option.some.injEq, Prod.mk.injEq] at H
 obtain ⟨rfl, rfl⟩ := H
 go_enter Tryz.func24, Tryz.ntmps24
 go_wp2_with (first | ((with_reducible refine gate_callee (f := 45) rfl ?_); refine gl_ (some 5) Tryz.func45 #[.slice A0 l0.length c0] rfl ?_; (with_reducible refine (spec_DrawPutOne.calls k _ _ l0 t277 t278 _ ?side1 ?side2 A2.out).mono ?_); (case side1 => exact cc_ HR0.out); (case side2 => exact HC0.out); rintro e w3 ⟨v279, rfl, ho0, hb⟩; refine ⟨_, rfl, ?_⟩; have HO280 := Aside0.mk (Kd.R_lower ho0 (below_size (bl_ HB.out))); replace HB := Aside0.mk (below_step (bl_ HB.out) hb); (try clear hb); (try clear hb2); (try clear hk); (try clear hi); (try clear ho0)))
 go_ret2
 exact ⟨_, by first | rfl | (simp [errW_none, errW_some] <;> rfl) | (simp [*, errW_none, errW_some] <;> rfl), by (with_reducible repeat (first | apply Kd.R_alloc | apply Kd.R_drewN | apply Kd.R_drew)); exact HO280.out, bl_ HB.out⟩
def spec_SplitContinuant.j0 : Nat → List Int → Int → Bool → Option (List Int × Bool)
 | 0, _, _, _ => none
 | k + 1, x0, x1, x16 => if x16 = true then (some (([] : List Int), false)) else (if 0 ≤ x1 then (if x1 ≤ (x0.length : Int) then ((spec_ctValue.f k (x0.take (x1 : Int).toNat) (-1)).bind fun t284 => ((spec_ctValue.f k (x0.drop (x1 : Int).toNat) (-1)).bind fun t286 => (if 0 ≤ (wrap64 (x1 - 1)) then (if (wrap64 (x1 - 1)) ≤ (x0.length : Int) then ((spec_ctValue.f k (x0.take ((wrap64 (x1 - 1)) : Int).toNat) (-1)).bind fun t288 => (if 0 ≤ (wrap64 (x1 + 1)) then (if (wrap64 (x1 + 1)) ≤ (x0.length : Int) then ((spec_ctValue.f k (x0.drop ((wrap64 (x1 + 1)) : Int).toNat) (-1)).bind fun t290 => (some ((([t284, t286, t288, t290] : List Int)), true))) else (none)) else (none))) else (none)) else (none)))) else (none)) else (none))
def spec_SplitContinuant.f (k : Nat) (l0 : List Int) (a1 : Int) : Option (List Int × Bool) := (spec_ctGood.f k l0).bind fun t281 => (if t281 = true then ((spec_l1In.f a1 1 (wrap64 ((l0.length : Int) - 1))).bind fun t282 => (spec_SplitContinuant.j0 k l0 a1 (!t282))) else (spec_SplitContinuant.j0 k l0 a1 true))
def spec_SplitContinuant.T3 : Bool × List (List Nat × List Nat) := (true, [([], []), ([], []), ([0, 1], [0, 1]), ([2], [2]), ([], []), ([], []), ([4, 5], [4, 5]), ([6, 3], [6]), ([], []), ([], []), ([9], [9]), ([8, 10], [8, 10]), ([11, 7], [11]), ([], []), ([], []), ([14], [14]), ([13, 15], [13, 15]), ([16, 12], [16]), ([3, 7, 12, 17], [3, 7, 12, 17]), ([18, 17, 0, 1, 2, 3, 4, 5, 6, 7, 8, 9, 10, 11, 12, 13, 14, 15, 16, 17, 18], [18]), ([19, 0, 1, 2, 3, 4, 5, 6, 7, 8, 9, 10, 11, 12, 13, 14, 15, 16, 17, 18, 19], [])])
def spec_SplitContinuant.B3 : List Nat := [0, 0, 3, 7, 0, 0, 48, 127, 0, 0, 512, 1792, 4095, 0, 0, 16384, 57344, 131071, 262143, 524287, 1048575]
theorem spec_SplitContinuant.tab3 : rtab .any (opsOf Tryz.f25 3) = spec_SplitContinuant.T3 := by kernel_rfl
theorem spec_SplitContinuant.bits3 : waitsOk spec_SplitContinuant.T3.2 spec_SplitContinuant.B3 = true := by kernel_rfl
set_option maxHeartbeats 8000000 in
set_option maxRecDepth 100000 in
theorem spec_SplitContinuant.calls (k : Nat) (A0 : Option Addr) (c0 : Nat) (l0 : List Int) (a1 : Int) (r1 : List Int) (r2 : Bool) (w : World) (hr0 : Kd.C (Kd.int .i64) w A0 l0.length l0) (hc0 : l0.length ≤ c0) (h : spec_SplitContinuant.f k l0 a1 = some (r1, r2)) :
  Calls Tryz.prog 25 #[.slice A0 l0.length c0, .int .i64 a1] w fun e w' => ∃ v0_ : Value, e = .returned (.tuple #[v0_, .bool r2]) ∧ Kd.R (Kd.int .i64) 3 w' w.heap.size (fun _ => True) v0_ r1 ∧ Below w.heap.size w w' := by
 have HR0 := Aside0.mk hr0; have HC0 := Aside0.mk hc0; clear hr0 hc0; have HB := Aside0.mk (Below.refl w.heap.size w); have H : ((spec_ctGood.f k l0).bind fun t281 => (if t281 = true then ((spec_l1In.f a1 1 (wrap64 ((l0.length : Int) - 1))).bind fun t282 => (spec_SplitContinuant.j0 k l0 a1 (!t282))) else (spec_SplitContinuant.j0 k l0 a1 true))) = some (r1, r2) := h
 clear h; have HC3 := Aside0.mk H; clear H
 go_enter Tryz.func25, Tryz.ntmps25
 go_upto_region 1 with (fail)
 go_cut [16] (fun v16 wc => ∃ (kq : Nat) (x16_2 : Bool), v16 = .bool x16_2 ∧ Aside0 (spec_SplitContinuant.j0 kq l0 a1 x16_2 = some (r1, r2)) ∧ Aside0 (kq ≤ k) ∧ Aside0 (Below w.heap.size w wc))
 case first =>
  have H := HC3.out; clear HC3; replace H := Option.bind_eq_some_iff.mp H; obtain ⟨t281, A40, H⟩ := H; have A4 := Aside0.mk A40; clear A40
  by_cases c5 : t281 = true
  ·subst c5
   rw [if_pos rfl] at H
   replace H := Option.bind_eq_some_iff.mp H; obtain ⟨t282, A60, H⟩ := H; have A6 := Aside0.mk A60; clear A60; have H' := Aside0.mk H; clear H
   go_wp2_with (first | ((with_reducible refine gate_callee (f := 34) rfl ?_); refine gl_ (some 7) Tryz.func34 #[.slice A0 l0.length c0] rfl ?_; (with_reducible refine (spec_ctGood.calls k _ _ l0 true _ ?side1 ?side2 A4.out).mono ?_); (case side1 => exact cc_ (Kd.C_below HR0.out HB.out)); (case side2 => exact HC0.out); rintro e w' ⟨rfl, ⟨nd, rfl⟩⟩; refine ⟨_, rfl, ?_⟩) | (go_at_call 46; (with_reducible refine (spec_l1In.calls a1 1 (wrap64 ((l0.length : Int) - 1)) t282 _ A6.out).mono ?_); rintro e w' ⟨rfl, ⟨nd, rfl⟩⟩))
   go_meet
   case rel => exact ⟨_, (!t282), (fs_), H', ⟨by first | omega | exact Nat.le_refl _⟩, ⟨bl_ HB.out⟩⟩
  ·replace c5 := Bool.eq_false_iff.mpr c5
   subst c5; rw [if_neg (show ¬ (false = true) by decide)] at H
   have H' := Aside0.mk H; clear H
   go_wp2_with (first | ((with_reducible refine gate_callee (f := 34) rfl ?_); refine gl_ (some 7) Tryz.func34 #[.slice A0 l0.length c0] rfl ?_; (with_reducible refine (spec_ctGood.calls k _ _ l0 false _ ?side1 ?side2 A4.out).mono ?_); (case side1 => exact cc_ (Kd.C_below HR0.out HB.out)); (case side2 => exact HC0.out); rintro e w' ⟨rfl, ⟨nd, rfl⟩⟩; refine ⟨_, rfl, ?_⟩))
   go_meet
   case rel => exact ⟨_, (true), (fs_), H', ⟨by first | omega | exact Nat.le_refl _⟩, ⟨bl_ HB.out⟩⟩
 case rest =>
  clear HC3
  try clear c2
  try clear p2
  try clear c3
  try clear c5
  try clear p6
  obtain ⟨kq, x16_2, rfl, HA, HJ2, HB⟩ := hcut
  cases kq with
  | zero => exact absurd HA.out (by simp [spec_SplitContinuant.j0])
  | succ kj2 =>
   have H := HA.out; clear HA
   simp only [spec_SplitContinuant.j0] at H
   by_cases c7 : x16_2 = true
   ·subst c7
    rw [if_pos rfl] at H
    simp only [Option.some.injEq, Prod.mk.injEq] at H
    obtain ⟨rfl, rfl⟩ := H
    go_wp2
    go_ret2
    exact ⟨_, by first | rfl | (simp [errW_none, errW_some] <;> rfl) | (simp [*, errW_none, errW_some] <;> rfl), by first | exact Kd.R_nil _ _ _ _ _ | exact Kd.N_nil _ _ _ _ _ | exact Kd.V_nil _ _ _ _ _ | exact Kd.Q_nil _ _ _ _ _ | exact Kd.S_nil _ _ _ _ _, bl_ HB.out⟩
   ·replace c7 := Bool.eq_false_iff.mpr c7
    subst c7; rw [if_neg (show ¬ (false = true) by decide)] at H
    by_cases c8 : 0 ≤ a1
    ·rw [if_pos c8] at H
     have c8b0 := eq_true c8; have c8b1 : decide (0 ≤ a1) = true := decide_eq_true c8; clear c8
     by_cases c9 : a1 ≤ (l0.length : Int)
     ·rw [if_pos c9] at H
      have c9b0 := eq_true c9; have c9b1 : decide (a1 ≤ (l0.length : Int)) = true := decide_eq_true c9; clear c9; replace H := Option.bind_eq_some_iff.mp H; obtain ⟨t284, A100, H⟩ := H; have A10 := Aside0.mk A100; clear A100; have c11b0 := eq_true (of_decide_eq_true as_ : 0 ≤ a1); have c12b0 := eq_true (of_decide_eq_true as_ : a1 ≤ (l0.length : Int)); replace H := Option.bind_eq_some_iff.mp H; obtain ⟨t286, A130, H⟩ := H; have A13 := Aside0.mk A130; clear A130; obtain ⟨ji14, hji14⟩ : ∃ j_ : Int, (wrap64 (a1 - 1)) = j_ := ⟨_, rfl⟩; replace H : (if 0 ≤ (ji14) then (if (ji14) ≤ (l0.length : Int) then ((spec_ctValue.f kj2 (l0.take ((ji14) : Int).toNat) (-1)).bind fun t288 => (if 0 ≤ (wrap64 (a1 + 1)) then (if (wrap64 (a1 + 1)) ≤ (l0.length : Int) then ((spec_ctValue.f kj2 (l0.drop ((wrap64 (a1 + 1)) : Int).toNat) (-1)).bind fun t290 => (some ((([t284, t286, t288, t290] : List Int)), true))) else (none)) else (none))) else (none)) else (none)) = some (r1, r2) := by first | (rw [hji14] at H; exact H) | (simp only [hji14] at H ⊢; exact H)
      (try rw [hji14] at A10)
      (try rw [hji14] at A13)
      have hji14w : (IntKind.i64.wrap (a1 - 1)) = ji14 := (i64_w _).trans hji14
      by_cases c15 : 0 ≤ (ji14)
      ·rw [if_pos c15] at H
       have c15b0 := eq_true c15; have c15b1 : decide (0 ≤ (ji14)) = true := decide_eq_true c15; clear c15
       by_cases c16 : (ji14) ≤ (l0.length : Int)
       ·rw [if_pos c16] at H
        have c16b0 := eq_true c16; have c16b1 : decide ((ji14) ≤ (l0.length : Int)) = true := decide_eq_true c16; clear c16; replace H := Option.bind_eq_some_iff.mp H; obtain ⟨t288, A170, H⟩ := H; have A17 := Aside0.mk A170; clear A170; obtain ⟨ji18, hji18⟩ : ∃ j_ : Int, (wrap64 (a1 + 1)) = j_ := ⟨_, rfl⟩; replace H : (if 0 ≤ (ji18) then (if (ji18) ≤ (l0.length : Int) then ((spec_ctValue.f kj2 (l0.drop ((ji18) : Int).toNat) (-1)).bind fun t290 => (some ((([t284, t286, t288, t290] : List Int)), true))) else (none)) else (none)) = some (r1, r2) := by first | (rw [hji18] at H; exact H) | (simp only [hji18] at H ⊢; exact H)
        (try rw [hji18] at A10)
        (try rw [hji18] at A13)
        (try rw [hji18] at A17)
        have hji18w : (IntKind.i64.wrap (a1 + 1)) = ji18 := (i64_w _).trans hji18
        by_cases c19 : 0 ≤ (ji18)
        ·rw [if_pos c19] at H
         have c19b0 := eq_true c19; have c19b1 : decide (0 ≤ (ji18)) = true := decide_eq_true c19; clear c19
         by_cases c20 : (ji18) ≤ (l0.length : Int)
         ·rw [if_pos c20] at H
          have c20b0 := eq_true c20; have c20b1 : decide ((ji18) ≤ (l0.length : Int)) = true := decide_eq_true c20; clear c20; replace H := Option.bind_eq_some_iff.mp H; obtain ⟨t290, A210, H⟩ := H; have A21 := Aside0.mk A210; clear A210; obtain ⟨y291, hy291⟩ : ∃ y_ : List Int, y_ = (([t284, t286, t288, t290] : List Int)) := ⟨_, rfl⟩; replace H : (some (y291, true)) = some (r1, r2) := rh_ hy291 H; have Ny291 := Aside0.mk hy291; clear hy291
          simp only [Option.some.injEq, Prod.mk.injEq] at H
          obtain ⟨rfl, rfl⟩ := H
          try go_wp2
          replace HB := Aside0.mk (below_drew1 HB.out); obtain ⟨i023, hi023, _, hsz23, _⟩ := info_parts info3; obtain ⟨hcut23, hA23, hC23⟩ := print_take_of (P := Tryz.prog) (Value.int .i64) 0 24 3 .i64 Tryz.underlying24 hi023 hsz23 A0 c0 l0 a1 (of_decide_eq_true as_) (of_decide_eq_true as_) HC0.out; have HR283 := Aside0.mk (Kd.C_of_reads (h1 := fun _ => rfl) (hA23 _ (Kd.reads_of_C HR0.out)))
          have HC283 := Aside0.mk hC23; clear hA23 hC23 hi023 hsz23; obtain ⟨i024, hi024, _, hsz24, _⟩ := info_parts info3; obtain ⟨A24, hcut24, hA24, hC24⟩ := print_drop_of (P := Tryz.prog) (Value.int .i64) 0 24 3 .i64 Tryz.underlying24 hi024 hsz24 A0 c0 l0 a1 (of_decide_eq_true as_) (of_decide_eq_true as_) HC0.out; have HR285 := Aside0.mk (Kd.C_of_reads (h1 := fun _ => rfl) (hA24 _ (Kd.reads_of_C HR0.out)))
          have HC285 := Aside0.mk hC24; clear hA24 hC24 hi024 hsz24; obtain ⟨i025, hi025, _, hsz25, _⟩ := info_parts info3; obtain ⟨hcut25, hA25, hC25⟩ := print_take_of (P := Tryz.prog) (Value.int .i64) 0 24 3 .i64 Tryz.underlying24 hi025 hsz25 A0 c0 l0 (ji14) (of_decide_eq_true as_) (of_decide_eq_true as_) HC0.out; have HR287 := Aside0.mk (Kd.C_of_reads (h1 := fun _ => rfl) (hA25 _ (Kd.reads_of_C HR0.out)))
          have HC287 := Aside0.mk hC25; clear hA25 hC25 hi025 hsz25; obtain ⟨i026, hi026, _, hsz26, _⟩ := info_parts info3; obtain ⟨A26, hcut26, hA26, hC26⟩ := print_drop_of (P := Tryz.prog) (Value.int .i64) 0 24 3 .i64 Tryz.underlying24 hi026 hsz26 A0 c0 l0 (ji18) (of_decide_eq_true as_) (of_decide_eq_true as_) HC0.out; have HR289 := Aside0.mk (Kd.C_of_reads (h1 := fun _ => rfl) (hA26 _ (Kd.reads_of_C HR0.out)))
          have HC289 := Aside0.mk hC26; clear hA26 hC26 hi026 hsz26; refine start_ (n := 21) (S := fun w' => True) (ds := []) #[false, false, false, false, false, false, false, false, false, false, false, false, false, false, false, false, false, false, false, false, false] (by kernel_rfl) rfl rfl trivial (fun hHeld => ?_); refine with_tabW spec_SplitContinuant.tab3 spec_SplitContinuant.bits3 (fun HT_ HW_ => ?_)
          generalize wc.drew = w22 at HB HR283 HR285 HR287 HR289 hHeld ⊢
          refine pa_ 0 (some 17) rfl rfl HT_ ?_; refine pa_ 1 (some 18) rfl rfl HT_ ?_; refine pa_ 2 (some 19) rfl rfl HT_ ?_; refine pa_ 4 (some 21) rfl rfl HT_ ?_; refine pa_ 5 (some 22) rfl rfl HT_ ?_; refine pa_ 6 (some 23) rfl rfl HT_ ?_; refine pa_ 8 (some 25) rfl rfl HT_ ?_; refine pa_ 9 (some 26) rfl rfl HT_ ?_; refine pa_ 10 (some 27) rfl rfl HT_ ?_; refine pa_ 11 (some 28) rfl rfl HT_ ?_; refine pa_ 13 (some 30) rfl rfl HT_ ?_; refine pa_ 14 (some 31) rfl rfl HT_ ?_; refine pa_ 15 (some 32) rfl rfl HT_ ?_; refine pa_ 16 (some 33) rfl rfl HT_ ?_; refine one_ (i := 3) (N := some 20) #[true, true, true, true, true, true, true, false, true, true, true, true, false, true, true, true, true, false, false, false, false] rfl rfl (one_of HT_.out (by kernel_rfl)) (by decide) (fun K hK => ?_)
          refine goes_ Tryz.func37 (by kernel_rfl) rfl #[.slice A0 (l0.take (a1 : Int).toNat).length c0, .int .i64 (-1)] (by rfl) rfl rfl (by (try simp only [List.map_toArray, List.map_cons, List.map_nil]); first | done | (rw [show (l0.take (a1 : Int).toNat).length = a1.toNat from (by rw [List.length_take]; have h_ : (a1 : Int) ≤ (l0.length : Int) := of_decide_eq_true as_; omega)] <;> rfl) | rfl | (simp only [List.length_drop, List.length_take]; rfl)) ?_
          with_reducible refine (spec_ctValue.calls kj2 _ _ (l0.take (a1 : Int).toNat) (-1) t284 _ ?side1 ?side2 A10.out).mono ?_
          (case side1 => exact cc_ (Kd.C_below HR283.out HB.out))
          (case side2 => exact HC283.out)
          rintro e w' ⟨rfl, ⟨nd, rfl⟩⟩
          refine ⟨_, rfl, ?_⟩; refine hK.out _ _ trivial (fun hHeld => ?_)
          clear hK K; refine na_ (some 20) ?_; refine one_ (i := 7) (N := some 24) #[true, true, true, true, true, true, true, true, true, true, true, true, false, true, true, true, true, false, false, false, false] rfl rfl (one_of HT_.out (by kernel_rfl)) (by decide) (fun K hK => ?_)
          refine goes_ Tryz.func37 (by kernel_rfl) rfl #[.slice A24 (l0.drop (a1 : Int).toNat).length (c0 - a1.toNat), .int .i64 (-1)] (by rfl) rfl rfl (by (try simp only [List.map_toArray, List.map_cons, List.map_nil]); first | done | (rw [show (l0.drop (a1 : Int).toNat).length = (l0.length - a1.toNat) from List.length_drop] <;> rfl) | rfl | (simp only [List.length_drop, List.length_take]; rfl)) ?_
          with_reducible refine (spec_ctValue.calls kj2 _ _ (l0.drop (a1 : Int).toNat) (-1) t286 _ ?side1 ?side2 A13.out).mono ?_
          (case side1 => exact cc_ (Kd.C_below HR285.out (bl_ HB.out)))
          (case side2 => exact HC285.out)
          rintro e w' ⟨rfl, ⟨nd, rfl⟩⟩
          refine ⟨_, rfl, ?_⟩; refine hK.out _ _ trivial (fun hHeld => ?_)
          clear hK K; refine na_ (some 24) ?_; refine one_ (i := 12) (N := some 29) #[true, true, true, true, true, true, true, true, true, true, true, true, true, true, true, true, true, false, false, false, false] rfl rfl (one_of HT_.out (by kernel_rfl)) (by decide) (fun K hK => ?_)
          refine goes_ Tryz.func37 (by kernel_rfl) rfl #[.slice A0 (l0.take ((ji14) : Int).toNat).length c0, .int .i64 (-1)] (by rfl) rfl rfl (by (try simp only [List.map_toArray, List.map_cons, List.map_nil]); first | done | (rw [show (l0.take ((ji14) : Int).toNat).length = (ji14).toNat from (by rw [List.length_take]; have h_ : ((ji14) : Int) ≤ (l0.length : Int) := of_decide_eq_true as_; omega)] <;> rfl) | (simp only [hji14]; rfl) | rfl | (simp only [List.length_drop, List.length_take]; rfl)) ?_
          with_reducible refine (spec_ctValue.calls kj2 _ _ (l0.take ((ji14) : Int).toNat) (-1) t288 _ ?side1 ?side2 A17.out).mono ?_
          (case side1 => exact cc_ (Kd.C_below HR287.out (bl_ HB.out)))
          (case side2 => exact HC287.out)
          rintro e w' ⟨rfl, ⟨nd, rfl⟩⟩
          refine ⟨_, rfl, ?_⟩; refine hK.out _ _ trivial (fun hHeld => ?_)
          clear hK K; refine na_ (some 29) ?_; refine one_ (i := 17) (N := some 34) #[true, true, true, true, true, true, true, true, true, true, true, true, true, true, true, true, true, true, false, false, false] rfl rfl (one_of HT_.out (by kernel_rfl)) (by decide) (fun K hK => ?_)
          refine goes_ Tryz.func37 (by kernel_rfl) rfl #[.slice A26 (l0.drop ((ji18) : Int).toNat).length (c0 - (ji18).toNat), .int .i64 (-1)] (by rfl) rfl rfl (by (try simp only [List.map_toArray, List.map_cons, List.map_nil]); first | done | (rw [show (l0.drop ((ji18) : Int).toNat).length = (l0.length - (ji18).toNat) from List.length_drop] <;> rfl) | (simp only [hji18]; rfl) | rfl | (simp only [List.length_drop, List.length_take]; rfl)) ?_
          with_reducible refine (spec_ctValue.calls kj2 _ _ (l0.drop ((ji18) : Int).toNat) (-1) t290 _ ?side1 ?side2 A21.out).mono ?_
          (case side1 => exact cc_ (Kd.C_below HR289.out (bl_ HB.out)))
          (case side2 => exact HC289.out)
          rintro e w' ⟨rfl, ⟨nd, rfl⟩⟩
          refine ⟨_, rfl, ?_⟩; refine hK.out _ _ trivial (fun hHeld => ?_)
          clear hK K; refine na_ (some 34) ?_; refine one_ (i := 18) (N := some 35) #[true, true, true, true, true, true, true, true, true, true, true, true, true, true, true, true, true, true, true, false, false] rfl rfl (one_of HT_.out (by kernel_rfl)) (by decide) (fun K hK => ?_)
          refine Kd.R_lit_step (Kd.int .i64) _ 3 ?hg (N := 35) ?hd (xs := ([t284, t286, t288, t290] : List Int)) (inner := [.int .i64 t284, .int .i64 t286, .int .i64 t288, .int .i64 t290]) (ok := fun _ => True) (okp := fun _ => True) ?hr ?hp (fun _ hk => hk) trivial (Below.refl _ _) (Nat.le_refl _) (by simp) ?_; (case hd => rfl); (case hg => rfl); (case hr => first | (go_simp; done) | (go_simp; rfl)); (case hp => exact (Reps.one (show Kd.M (Kd.int .i64) _ _ _ t284 [.int .i64 t284] from rfl) (Reps.one (show Kd.M (Kd.int .i64) _ _ _ t286 [.int .i64 t286] from rfl) (Reps.one (show Kd.M (Kd.int .i64) _ _ _ t288 [.int .i64 t288] from rfl) (Reps.one (show Kd.M (Kd.int .i64) _ _ _ t290 [.int .i64 t290] from rfl) (Reps.none _ _))))))
          intro v292 w27 ho28 hb hg_ hnew_; clear hg_ hnew_
          (first | rw [← Ny291.out] at ho28 | (simp only [Int.reduceToNat] at ho28; rw [← Ny291.out] at ho28))
          have HO293 := Aside0.mk (Kd.R_lower ho28 (below_size (bl_ HB.out))); replace HB := Aside0.mk (below_step (bl_ HB.out) hb); clear hb ho28; refine hK.out _ _ trivial (fun hHeld => ?_)
          clear hK K; refine na_ (some 35) ?_; refine pa_ 19 (some 4) rfl rfl HT_ ?_; refine pa_ 20 (some 5) rfl rfl HT_ ?_; refine done_ (done_of HT_.out (by kernel_rfl)) ?_
          try go_wp2
          go_ret2
          exact ⟨_, by first | rfl | (simp [errW_none, errW_some] <;> rfl) | (simp only [← hji14, ← hji18]; first | rfl | (simp [errW_none, errW_some] <;> rfl)) | (simp [*, errW_none, errW_some] <;> rfl), by (with_reducible repeat (first | apply Kd.R_alloc | apply Kd.R_drewN | apply Kd.R_drew)); exact HO293.out, bl_ HB.out⟩
         ·rw [if_neg c20] at H
          exact absurd H (by simp)
        ·rw [if_neg c19] at H
         exact absurd H (by simp)
       ·rw [if_neg c16] at H
        exact absurd H (by simp)
      ·rw [if_neg c15] at H
       exact absurd H (by simp)
     ·rw [if_neg c9] at H
      exact absurd H (by simp)
    ·rw [if_neg c8] at H
     exact absurd H (by simp)
def spec_DrawCountTerms.f (l0 : List Int) : Option Int := (spec_l1Cur_among.f l0 0 0 ([0, 1, 2, 3, 5, 10, 11, (-1)] : List Int)).bind fun b => some b.1
set_option maxHeartbeats 8000000 in
set_option maxRecDepth 100000 in
theorem spec_DrawCountTerms.calls (A0 : Option Addr) (c0 : Nat) (l0 : List Int) (r : Int) (w : World) (hr0 : Kd.C (Kd.int .u8) w A0 l0.length l0) (hc0 : l0.length ≤ c0) (h : spec_DrawCountTerms.f l0 = some r) :
  Calls Tryz.prog 26 #[.slice A0 l0.length c0] w fun e w' => e = .returned (.int .i64 r) ∧ Below w.heap.size w w' := by
 have HR := Aside0.mk hr0
 unfold spec_DrawCountTerms.f at h
 obtain ⟨⟨b1, b2, b3⟩, hb, h⟩ := Option.bind_eq_some_iff.1 h
 cases h
 obtain ⟨xl, hxl⟩ : ∃ y, y = ([0, 1, 2, 3, 5, 10, 11, (-1)] : List Int) := ⟨_, rfl⟩; rw [← hxl] at hb
 have HX := Aside0.mk hxl; have HP := Aside0.mk hb; clear hr0 hc0 hb hxl
 go_enter Tryz.func26, Tryz.ntmps26
 go_wp2_with (first | ((with_reducible refine gate_dst (N := 6) rfl ?_); refine be_ #[.slice A0 l0.length c0, .int .i64 0, .int .u64 0] 60 ?_; intro g hg w1 hbox hb; have HI := Aside0.mk (show IsS60 w w1 g l0 0 0 from ⟨A0, c0, hbox, Nat.le_of_eq hg.symm, HR.out⟩); have HB1 := Aside0.mk hb; clear hb hbox hg) | ((with_reducible refine gate_dst (N := 8) rfl ?_); refine Kd.R_lit (Kd.int .i64) _ 3 ?hg (N := 8) ?hd (xs := ([0, 1, 2, 3, 5, 10, 11, (-1)] : List Int)) (inner := [.int .i64 0, .int .i64 1, .int .i64 2, .int .i64 3, .int .i64 5, .int .i64 10, .int .i64 11, .int .i64 (-1)]) (ok := fun _ => True) (okp := fun _ => True) ?hr ?hp (fun _ hk => hk) trivial (Below.refl _ _) (Nat.le_refl _) (by simp) ?_; (case hd => rfl); (case hg => rfl); (case hr => first | (go_simp; done) | (go_simp; rfl)); (case hp => exact (Reps.one (show Kd.M (Kd.int .i64) _ _ _ 0 [.int .i64 0] from rfl) (Reps.one (show Kd.M (Kd.int .i64) _ _ _ 1 [.int .i64 1] from rfl) (Reps.one (show Kd.M (Kd.int .i64) _ _ _ 2 [.int .i64 2] from rfl) (Reps.one (show Kd.M (Kd.int .i64) _ _ _ 3 [.int .i64 3] from rfl) (Reps.one (show Kd.M (Kd.int .i64) _ _ _ 5 [.int .i64 5] from rfl) (Reps.one (show Kd.M (Kd.int .i64) _ _ _ 10 [.int .i64 10] from rfl) (Reps.one (show Kd.M (Kd.int .i64) _ _ _ 11 [.int .i64 11] from rfl) (Reps.one (show Kd.M (Kd.int .i64) _ _ _ (-1) [.int .i64 (-1)] from rfl) (Reps.none _ _)))))))))); intro vl w2 hol hb hg_ hnew_; clear hg_ hnew_;  rw [← HX.out] at hol; have HL := Aside0.mk hol; have HI2 := Aside0.mk (IsS60.below HI.out hb); have HB2 := Aside0.mk (below_step HB1.out hb); clear hol hb; obtain ⟨Ao, co, eo⟩ := Kd.R_slice HL.out; subst eo) | (go_at_call 47; (with_reducible refine (spec_l1Cur_among.calls g l0 0 0 _ _ xl b1 b2 b3 w w2 HI2.out HB2.out (Kd.R_reads' HL.out).2.2 (Kd.R_reads' HL.out).2.1 (far_slice (IsS60.own_ne HI2.out HL.out (by decide))) HP.out).mono ?_); rintro e w3 ⟨rfl, hI3, hb3, hk3⟩; have HB3 := Aside0.mk hb3; clear hI3 hb3 hk3))
 go_ret
 exact ⟨rfl, HB3.out⟩
def spec_CountTerms.f (k : Nat) (a0 : Int) : Option (Int × Bool) := (spec_l1In.f a0 0 10).bind fun t294 => (if t294 = true then ((some (([1, 1, 1, 1, 1, 1, 1, 1, 1, 1] : List Int) : List Int)).bind fun y295 => (if 0 ≤ a0 then (if a0 ≤ (y295.length : Int) then ((spec_ctValue.f k (y295.take (a0 : Int).toNat) 1).bind fun t302 => (some (t302, true))) else (none)) else (none))) else (some (0, false)))
set_option maxHeartbeats 8000000 in
set_option maxRecDepth 100000 in
theorem spec_CountTerms.calls (k : Nat) (a0 : Int) (r1 : Int) (r2 : Bool) (w : World) (h : spec_CountTerms.f k a0 = some (r1, r2)) :
  Calls Tryz.prog 27 #[.int .i64 a0] w fun e w' => e = .returned (.tuple #[.int .i64 r1, .bool r2]) ∧ Below w.heap.size w w' := by
 have HB := Aside0.mk (Below.refl w.heap.size w); have H : ((spec_l1In.f a0 0 10).bind fun t294 => (if t294 = true then ((some (([1, 1, 1, 1, 1, 1, 1, 1, 1, 1] : List Int) : List Int)).bind fun y295 => (if 0 ≤ a0 then (if a0 ≤ (y295.length : Int) then ((spec_ctValue.f k (y295.take (a0 : Int).toNat) 1).bind fun t302 => (some (t302, true))) else (none)) else (none))) else (some (0, false)))) = some (r1, r2) := h
 clear h; replace H := Option.bind_eq_some_iff.mp H; obtain ⟨t294, A20, H⟩ := H; have A2 := Aside0.mk A20; clear A20
 by_cases c3 : t294 = true
 ·subst c3
  rw [if_pos rfl] at H
  obtain ⟨y295, hy295⟩ : ∃ y_ : List Int, y_ = (([1, 1, 1, 1, 1, 1, 1, 1, 1, 1] : List Int)) := ⟨_, rfl⟩; replace H : (if 0 ≤ a0 then (if a0 ≤ (y295.length : Int) then ((spec_ctValue.f k (y295.take (a0 : Int).toNat) 1).bind fun t302 => (some (t302, true))) else (none)) else (none)) = some (r1, r2) := rh_ hy295 H
  have Ny295 := Aside0.mk hy295; clear hy295
  by_cases c4 : 0 ≤ a0
  ·rw [if_pos c4] at H
   have c4b0 := eq_true c4; have c4b1 : decide (0 ≤ a0) = true := decide_eq_true c4; clear c4
   by_cases c5 : a0 ≤ (y295.length : Int)
   ·rw [if_pos c5] at H
    have c5b0 := eq_true c5; have c5b1 : decide (a0 ≤ (y295.length : Int)) = true := decide_eq_true c5; clear c5; obtain ⟨y298, hy298⟩ : ∃ y_ : List Int, y_ = (y295.take (a0 : Int).toNat) := ⟨_, rfl⟩; replace H : ((spec_ctValue.f k y298 1).bind fun t302 => (some (t302, true))) = some (r1, r2) := rh_ hy298 H
    have Ny298 := Aside0.mk hy298; clear hy298; replace H := Option.bind_eq_some_iff.mp H; obtain ⟨t302, A60, H⟩ := H; have A6 := Aside0.mk A60; clear A60
    simp only [Option.some.injEq, Prod.mk.injEq] at H
    obtain ⟨rfl, rfl⟩ := H
    go_enter Tryz.func27, Tryz.ntmps27
    go_wp2_with (first | ((with_reducible refine gate_callee (f := 46) rfl ?_); refine gl_ (some 5) Tryz.func46 #[.int .i64 a0, .int .i64 0, .int .i64 10] rfl ?_; (with_reducible refine (spec_l1In.calls a0 0 10 true _ A2.out).mono ?_); rintro e w' ⟨rfl, ⟨nd, rfl⟩⟩; refine ⟨_, rfl, ?_⟩) | ((with_reducible refine gate_dst (N := 7) rfl ?_); refine Kd.R_lit (Kd.int .i64) _ 3 ?hg (N := 7) ?hd (xs := ([1, 1, 1, 1, 1, 1, 1, 1, 1, 1] : List Int)) (inner := [.int .i64 1, .int .i64 1, .int .i64 1, .int .i64 1, .int .i64 1, .int .i64 1, .int .i64 1, .int .i64 1, .int .i64 1, .int .i64 1]) (ok := fun _ => True) (okp := fun _ => True) ?hr ?hp (fun _ hk => hk) trivial (Below.refl _ _) (Nat.le_refl _) (by simp) ?_; (case hd => rfl); (case hg => rfl); (case hr => first | (go_simp; done) | (go_simp; rfl)); (case hp => exact (Reps.one (show Kd.M (Kd.int .i64) _ _ _ 1 [.int .i64 1] from rfl) (Reps.one (show Kd.M (Kd.int .i64) _ _ _ 1 [.int .i64 1] from rfl) (Reps.one (show Kd.M (Kd.int .i64) _ _ _ 1 [.int .i64 1] from rfl) (Reps.one (show Kd.M (Kd.int .i64) _ _ _ 1 [.int .i64 1] from rfl) (Reps.one (show Kd.M (Kd.int .i64) _ _ _ 1 [.int .i64 1] from rfl) (Reps.one (show Kd.M (Kd.int .i64) _ _ _ 1 [.int .i64 1] from rfl) (Reps.one (show Kd.M (Kd.int .i64) _ _ _ 1 [.int .i64 1] from rfl) (Reps.one (show Kd.M (Kd.int .i64) _ _ _ 1 [.int .i64 1] from rfl) (Reps.one (show Kd.M (Kd.int .i64) _ _ _ 1 [.int .i64 1] from rfl) (Reps.one (show Kd.M (Kd.int .i64) _ _ _ 1 [.int .i64 1] from rfl) (Reps.none _ _)))))))))))); intro v296 w7 ho8 hb hg_ hnew_; clear hg_ hnew_; (first | rw [← Ny295.out] at ho8 | (simp only [Int.reduceToNat] at ho8; rw [← Ny295.out] at ho8)); have HO297 := Aside0.mk (Kd.R_lower ho8 (below_size (bl_ HB.out))); replace HB := Aside0.mk (below_step (bl_ HB.out) hb); clear hb ho8; obtain ⟨Ao10, co10, eo10⟩ := Kd.R_slice HO297.out; subst eo10; have q9 : (a0 : Int) ≤ ((y295.length : Int) : Int) := of_decide_eq_true as_; obtain ⟨i09, hi09, _, hsz9, _⟩ := info_parts info3; have hroom9 : y295.length ≤ co10 := (Kd.R_reads' HO297.out).2.1; have hC9 : Kd.C (Kd.int .i64) _ Ao10 y295.length y295 := (Kd.R_reads' HO297.out).2.2; have hcut9 := cut_to (P := Tryz.prog) 24 3 .i64 Tryz.underlying24 hi09 Ao10 y295.length co10 a0 (of_decide_eq_true as_) q9 hroom9; have hr9 := Kd.C_take (m := (a0 : Int).toNat) hC9 (by omega); have hy9 : y298.length = (a0 : Int).toNat := (by rw [Ny298.out, List.length_take]; omega); rw [← Ny298.out] at hr9; rw [← hy9] at hcut9; have HR301 := Aside0.mk hr9; have HC301 := Aside0.mk (show y298.length ≤ co10 from by omega); clear hr9 hC9 hroom9 hi09 hsz9; have KY9 := Aside0.mk hy9; clear hy9; have KL9 := Aside0.mk (show (a0 : Int).toNat ≤ y295.length from by omega); replace q9 := eq_true q9) | ((with_reducible refine gate_callee (f := 37) rfl ?_); refine gl_ (some 10) Tryz.func37 #[.slice Ao10 y298.length co10, .int .i64 1] rfl ?_; (with_reducible refine (spec_ctValue.calls k _ _ y298 1 t302 _ ?side1 ?side2 A6.out).mono ?_); (case side1 => exact (cc_ HR301.out)); (case side2 => exact HC301.out); rintro e w' ⟨rfl, ⟨nd, rfl⟩⟩; refine ⟨_, rfl, ?_⟩))
    go_ret2
    exact ⟨by first | rfl | (simp [errW_none, errW_some] <;> rfl) | (simp [*, errW_none, errW_some] <;> rfl), bl_ HB.out⟩
   ·rw [if_neg c5] at H
    exact absurd H (by simp)
  ·rw [if_neg c4] at H
   exact absurd H (by simp)
 ·replace c3 := Bool.eq_false_iff.mpr c3
  subst c3; rw [if_neg (show ¬ (false = true) by decide)] at H
  simp only [Option.some.injEq, Prod.mk.injEq] at H
  obtain ⟨rfl, rfl⟩ := H
  go_enter Tryz.func27, Tryz.ntmps27
  go_wp2_with (first | ((with_reducible refine gate_callee (f := 46) rfl ?_); refine gl_ (some 5) Tryz.func46 #[.int .i64 a0, .int .i64 0, .int .i64 10] rfl ?_; (with_reducible refine (spec_l1In.calls a0 0 10 false _ A2.out).mono ?_); rintro e w' ⟨rfl, ⟨nd, rfl⟩⟩; refine ⟨_, rfl, ?_⟩))
  go_ret2
  exact ⟨by first | rfl | (simp [errW_none, errW_some] <;> rfl) | (simp [*, errW_none, errW_some] <;> rfl), bl_ HB.out⟩
def spec_l1Own.f (l0 : List Int) : Option (List Int) := (some (([] : List Int) : List Int)).bind fun y303 => (if y303.length + l0.length < 17592186044416 then (some (y303 ++ l0)) else (none))
set_option maxHeartbeats 8000000 in
set_option maxRecDepth 100000 in
theorem spec_l1Own.calls (A0 : Option Addr) (c0 : Nat) (l0 : List Int) (r : List Int) (w : World) (hr0 : Kd.C (Kd.int .i64) w A0 l0.length l0) (hc0 : l0.length ≤ c0) (h : spec_l1Own.f l0 = some r) :
  Calls Tryz.prog 69 #[.slice A0 l0.length c0] w fun e w' => ∃ v0_ : Value, e = .returned (v0_) ∧ Kd.R (Kd.int .i64) 3 w' w.heap.size (fun _ => True) v0_ r ∧ Below w.heap.size w w' := by
 have HR0 := Aside0.mk hr0; have HC0 := Aside0.mk hc0; clear hr0 hc0; have HB := Aside0.mk (Below.refl w.heap.size w); have H : ((some (([] : List Int) : List Int)).bind fun y303 => (if y303.length + l0.length < 17592186044416 then (some (y303 ++ l0)) else (none))) = some r := h
 clear h; obtain ⟨y303, hy303⟩ : ∃ y_ : List Int, y_ = (([] : List Int)) := ⟨_, rfl⟩; replace H : (if y303.length + l0.length < 17592186044416 then (some (y303 ++ l0)) else (none)) = some r := rh_ hy303 H
 have Ny303 := Aside0.mk hy303; clear hy303
 by_cases c2 : y303.length + l0.length < 17592186044416
 ·rw [if_pos c2] at H
  have LMc2 := Aside0.mk c2; clear c2; obtain ⟨y306, hy306⟩ : ∃ y_ : List Int, y_ = (y303 ++ l0) := ⟨_, rfl⟩; replace H : (some y306) = some r := rh_ hy306 H; have Ny306 := Aside0.mk hy306; clear hy306; obtain rfl := Option.some.inj H
  go_enter Tryz.func69, Tryz.ntmps69
  go_wp2_with (first | ((with_reducible refine gate_dst (N := 3) rfl ?_); refine Kd.R_lit (Kd.int .i64) _ 3 ?hg (N := 3) ?hd (xs := ([] : List Int)) (inner := []) (ok := fun _ => True) (okp := fun _ => True) ?hr ?hp (fun _ hk => hk) trivial (Below.refl _ _) (Nat.le_refl _) (by simp) ?_; (case hd => rfl); (case hg => rfl); (case hr => first | (go_simp; done) | (go_simp; rfl)); (case hp => exact (Reps.none _ _)); intro v304 w3 ho4 hb hg_ hnew_; clear hg_ hnew_; (first | rw [← Ny303.out] at ho4 | (simp only [Int.reduceToNat] at ho4; rw [← Ny303.out] at ho4)); have HO305 := Aside0.mk (Kd.R_lower ho4 (below_size (bl_ HB.out))); replace HB := Aside0.mk (below_step (bl_ HB.out) hb); clear hb ho4) | ((with_reducible refine gate_builtin (b := .append) (xs := #[.tmp 3, .tmp 4]) rfl ?_); at_builtin; refine Kd.R_append_rows (Kd.int .i64) (w0 := w) w.heap.size rfl (.tmp 3) (.tmp 4) 24 3 (.int .i64 0) 8 rfl Tryz.underlying24 info3 rfl (by decide) (by omega) v304 y303 l0 _ _ _ (fun _ => True) (fun _ => False) rfl rfl ?aO ?aR (fun _ _ h => h) (fun _ h => h.elim) ?aF ?aB ?aS ?aL ?_; (case aR => exact cc_ (Kd.C_below HR0.out HB.out)); (case aB => exact (bl_ HB.out)); (case aF => exact (fun _ _ => trivial)); (case aO => exact (kr_ HO305.out)); (case aS => exact (below_size (bl_ HB.out))); (case aL => have := LMc2.out; omega); intro v307 w5 ho hb hg hat; rw [← Ny306.out] at ho; replace HB := Aside0.mk (hb); have HO308 := Aside0.mk (ho); clear HO305 ho hb hg hat))
  go_ret
  exact ⟨_, by first | rfl | (simp [errW_none, errW_some] <;> rfl) | (simp [*, errW_none, errW_some] <;> rfl), by (with_reducible repeat (first | apply Kd.R_alloc | apply Kd.R_drewN | apply Kd.R_drew)); exact HO308.out, bl_ HB.out⟩
 ·rw [if_neg c2] at H
  exact absurd H (by simp)
end Go.Proofs.YtcfcnnnkpdhecaaGreat.PFnContinuantsSplit
