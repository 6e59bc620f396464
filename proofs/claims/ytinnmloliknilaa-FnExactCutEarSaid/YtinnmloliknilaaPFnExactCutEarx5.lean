-- Written for this claim by a program of this session (wip/tools/xprint.py over the kit's printer, wip/tools/shrink.py).
import Derived.Test.YtinnmloliknilaaPFnExactCutEarx0
import Derived.Test.YtinnmloliknilaaPFnExactCutEarx1
import Derived.Test.YtinnmloliknilaaPFnExactCutEarx4
namespace Go.Proofs.Ytinnmloliknilaa.PFnExactCutEar
open Go.RowKit Go.Proofs.YtinnmloliknilaaW.PrintWords Go.Proofs.YtinnmloliknilaaW.PrintLast Go.Proofs.YtinnmloliknilaaW.PrintMore
attribute [local go_sem] max2_int min2_int max_two min_two max_three min_three max_four min_four   -- for this text's walks alone
set_option linter.unusedVariables false
set_option linter.unusedSimpArgs false
def spec_IsQuiddity.f (k : Nat) (l0 : List Int) : Option (Bool) := (spec_poOf.f k l0).bind fun bt230 => (some bt230.2)
set_option maxHeartbeats 8000000 in
set_option maxRecDepth 100000 in
theorem spec_IsQuiddity.calls (k : Nat) (A0 : Option Addr) (c0 : Nat) (l0 : List Int) (r : Bool) (w : World) (hr0 : Kd.C (Kd.int .i64) w A0 l0.length l0) (hc0 : l0.length ≤ c0) (h : spec_IsQuiddity.f k l0 = some r) :
  Calls Try.prog 28 #[.slice A0 l0.length c0] w fun e w' => e = .returned (.bool r) ∧ Below w.heap.size w w' := by
 have HR0 := Aside0.mk hr0; have HC0 := Aside0.mk hc0; clear hr0 hc0; have HB := Aside0.mk (Below.refl w.heap.size w); have H : ((spec_poOf.f k l0).bind fun bt230 => (some bt230.2)) = some r := h
 clear h; replace H := Option.bind_eq_some_iff.mp H; obtain ⟨⟨t230, t231⟩, A20, H⟩ := H; replace H : (some t231) = some r := H; have A2 := Aside0.mk A20; clear A20; obtain rfl := Option.some.inj H
 go_enter Try.func28, Try.ntmps28
 go_wp2_with (first | ((with_reducible refine gate_callee (f := 65) rfl ?_); refine goesL_ (some 7) rfl rfl Try.func65 (by kernel_rfl) rfl #[.slice A0 l0.length c0] rfl (by (try simp only [List.map_toArray, List.map_cons, List.map_nil]); first | done | rfl | (simp only [List.length_drop, List.length_take]; rfl)) ?_; (with_reducible refine (spec_poOf.calls k _ _ l0 t230 t231 _ ?side1 ?side2 A2.out).mono ?_); (case side1 => repeat (first | exact HR0.out | (with_reducible refine Kd.C_alloc ?_ _) | (with_reducible refine Kd.C_drewN ?_ _) | (with_reducible refine Kd.C_drew ?_))); (case side2 => exact HC0.out); rintro e w3 ⟨v232, rfl, ho0, hb⟩; refine ⟨_, rfl, ?_⟩; have n0_ := Aside0.mk (Kd.R_lower ho0 (below_size (bl_ HB.out))); have n1_ := Aside0.mk (below_step (bl_ HB.out) hb); clear HB; have HO233 := n0_; have HB := n1_; clear n0_ n1_; (try clear hb); (try clear hb2); (try clear hk); (try clear hi); (try clear ho0)))
 go_ret
 exact ⟨by first | rfl | (simp [errW_none, errW_some] <;> rfl) | (simp [*, errW_none, errW_some] <;> rfl), bl_ HB.out⟩
def spec_CutEar.j0 : Nat → List Int → Int → Int → Bool → Option (List Int × Bool)
 | 0, _, _, _, _ => none
 | k + 1, x0, x1, x6, x30 => if x30 = true then (some (([] : List Int), false)) else ((spec_l1Own.f x0).bind fun t237 => (if x6 = 0 then (none) else (if 0 ≤ (Int.tmod (wrap64 ((wrap64 (x1 + x6)) - 1)) x6) then (if (Int.tmod (wrap64 ((wrap64 (x1 + x6)) - 1)) x6) < (t237.length : Int) then ((some (t237.set ((Int.tmod (wrap64 ((wrap64 (x1 + x6)) - 1)) x6) : Int).toNat (wrap64 ((rd t237 (Int.tmod (wrap64 ((wrap64 (x1 + x6)) - 1)) x6)) - 1)) : List Int)).bind fun y241 => (if 0 ≤ (Int.tmod (wrap64 (x1 + 1)) x6) then (if (Int.tmod (wrap64 (x1 + 1)) x6) < (t237.length : Int) then ((some (y241.set ((Int.tmod (wrap64 (x1 + 1)) x6) : Int).toNat (wrap64 ((rd y241 (Int.tmod (wrap64 (x1 + 1)) x6)) - 1)) : List Int)).bind fun y243 => (if 0 ≤ x1 then (if x1 ≤ (t237.length : Int) then ((spec_l1Own.f (y243.take (x1 : Int).toNat)).bind fun t248 => (if 0 ≤ (wrap64 (x1 + 1)) then (if (wrap64 (x1 + 1)) ≤ (t237.length : Int) then ((some (y243.drop ((wrap64 (x1 + 1)) : Int).toNat : List Int)).bind fun y251 => (if t248.length + y251.length < 17592186044416 then (some ((t248 ++ y251), true)) else (none))) else (none)) else (none))) else (none)) else (none))) else (none)) else (none))) else (none)) else (none))))
def spec_CutEar.f (k : Nat) (l0 : List Int) (a1 : Int) : Option (List Int × Bool) := (spec_IsQuiddity.f k l0).bind fun t234 => (if t234 = true then (if (l0.length : Int) < 4 then (spec_CutEar.j0 k l0 a1 (l0.length : Int) true) else ((spec_l1In.f a1 0 (wrap64 ((l0.length : Int) - 1))).bind fun t235 => (if t235 = true then (if 0 ≤ a1 then (if a1 < (l0.length : Int) then (spec_CutEar.j0 k l0 a1 (l0.length : Int) ((rd l0 a1) != 1)) else (none)) else (none)) else (spec_CutEar.j0 k l0 a1 (l0.length : Int) true)))) else (spec_CutEar.j0 k l0 a1 (l0.length : Int) true))
def spec_CutEar.T7 : Bool × List (List Nat × List Nat) := (true, [([], []), ([], []), ([0, 1], [0, 1]), ([2], [2]), ([], []), ([], []), ([5], [5]), ([4, 6], [4, 6]), ([3, 7, 3], [3, 7]), ([8, 8, 0, 1, 2, 3, 4, 5, 6, 7, 8], [8]), ([9, 0, 1, 2, 3, 4, 5, 6, 7, 8, 9], [])])
def spec_CutEar.B7 : List Nat := [0, 0, 3, 7, 0, 0, 32, 112, 255, 511, 1023]
theorem spec_CutEar.tab7 : rtab .any (opsOf Try.f34 7) = spec_CutEar.T7 := by kernel_rfl
theorem spec_CutEar.bits7 : waitsOk spec_CutEar.T7.2 spec_CutEar.B7 = true := by kernel_rfl
set_option maxHeartbeats 8000000 in
set_option maxRecDepth 100000 in
theorem spec_CutEar.calls (k : Nat) (A0 : Option Addr) (c0 : Nat) (l0 : List Int) (a1 : Int) (r1 : List Int) (r2 : Bool) (w : World) (hr0 : Kd.C (Kd.int .i64) w A0 l0.length l0) (hc0 : l0.length ≤ c0) (h : spec_CutEar.f k l0 a1 = some (r1, r2)) :
  Calls Try.prog 34 #[.slice A0 l0.length c0, .int .i64 a1] w fun e w' => ∃ v0_ : Value, e = .returned (.tuple #[v0_, .bool r2]) ∧ Kd.R (Kd.int .i64) 3 w' w.heap.size (fun _ => True) v0_ r1 ∧ Below w.heap.size w w' := by
 have HR0 := Aside0.mk hr0; have HC0 := Aside0.mk hc0; clear hr0 hc0; have HB := Aside0.mk (Below.refl w.heap.size w); have H : ((spec_IsQuiddity.f k l0).bind fun t234 => (if t234 = true then (if (l0.length : Int) < 4 then (spec_CutEar.j0 k l0 a1 (l0.length : Int) true) else ((spec_l1In.f a1 0 (wrap64 ((l0.length : Int) - 1))).bind fun t235 => (if t235 = true then (if 0 ≤ a1 then (if a1 < (l0.length : Int) then (spec_CutEar.j0 k l0 a1 (l0.length : Int) ((rd l0 a1) != 1)) else (none)) else (none)) else (spec_CutEar.j0 k l0 a1 (l0.length : Int) true)))) else (spec_CutEar.j0 k l0 a1 (l0.length : Int) true))) = some (r1, r2) := h
 clear h; have HC3 := Aside0.mk H; clear H
 go_enter Try.func34, Try.ntmps34
 go_upto_region 2 with (fail)
 go_cut [30] (fun v30 wc => ∃ (kq : Nat) (x30_2 : Bool), v30 = .bool x30_2 ∧ Aside0 (spec_CutEar.j0 kq l0 a1 (l0.length : Int) x30_2 = some (r1, r2)) ∧ Aside0 (kq ≤ k) ∧ Aside0 (Below w.heap.size w wc))
 case first =>
  have H := HC3.out; clear HC3; replace H := Option.bind_eq_some_iff.mp H; obtain ⟨t234, A40, H⟩ := H; replace H : (if t234 = true then (if (l0.length : Int) < 4 then (spec_CutEar.j0 k l0 a1 (l0.length : Int) true) else ((spec_l1In.f a1 0 (wrap64 ((l0.length : Int) - 1))).bind fun t235 => (if t235 = true then (if 0 ≤ a1 then (if a1 < (l0.length : Int) then (spec_CutEar.j0 k l0 a1 (l0.length : Int) ((rd l0 a1) != 1)) else (none)) else (none)) else (spec_CutEar.j0 k l0 a1 (l0.length : Int) true)))) else (spec_CutEar.j0 k l0 a1 (l0.length : Int) true)) = some (r1, r2) := H
  have A4 := Aside0.mk A40; clear A40
  by_cases c5 : t234 = true
  ·subst c5
   have H1 : (if (l0.length : Int) < 4 then (spec_CutEar.j0 k l0 a1 (l0.length : Int) true) else ((spec_l1In.f a1 0 (wrap64 ((l0.length : Int) - 1))).bind fun t235 => (if t235 = true then (if 0 ≤ a1 then (if a1 < (l0.length : Int) then (spec_CutEar.j0 k l0 a1 (l0.length : Int) ((rd l0 a1) != 1)) else (none)) else (none)) else (spec_CutEar.j0 k l0 a1 (l0.length : Int) true)))) = some (r1, r2) := by rw [if_pos rfl] at H; exact H
   clear H; have H := H1; clear H1
   by_cases c6 : (l0.length : Int) < 4
   ·rw [if_pos c6] at H
    have c6b0 : decide ((l0.length : Int) < 4) = true := decide_eq_true c6; have c6b1 : decide (l0.length < 4) = true := decide_eq_true (by omega)
    clear c6
    (first | rw [c6b0] | (simp only [i64_w, i32_w]; rw [c6b0]) | skip)
    have H' := Aside0.mk H; clear H
    go_wp2_with (first | ((with_reducible refine gate_callee (f := 28) rfl ?_); refine goesL_ (some 11) rfl rfl Try.func28 (by kernel_rfl) rfl #[.slice A0 l0.length c0] rfl (by (try simp only [List.map_toArray, List.map_cons, List.map_nil]); first | done | rfl | (simp only [List.length_drop, List.length_take]; rfl)) ?_; (with_reducible refine (spec_IsQuiddity.calls k _ _ l0 true _ ?side1 ?side2 A4.out).mono ?_); (case side1 => repeat (first | exact (Kd.C_below HR0.out HB.out) | (with_reducible refine Kd.C_alloc ?_ _) | (with_reducible refine Kd.C_drewN ?_ _) | (with_reducible refine Kd.C_drew ?_))); (case side2 => exact HC0.out); rintro e w7 ⟨rfl, hb⟩; refine ⟨_, rfl, ?_⟩; have n0_ := Aside0.mk (below_step (bl_ HB.out) hb); clear HB; have HB := n0_; clear n0_; (try clear hb); (try clear hb2); (try clear hk); (try clear hi)))
    go_meet
    case rel => exact ⟨_, (true), (fs_), H', ⟨by first | omega | exact Nat.le_refl _⟩, ⟨bl_ HB.out⟩⟩
   ·rw [if_neg c6] at H
    have c6b0 : decide ((l0.length : Int) < 4) = false := decide_eq_false c6; have c6b1 : decide (l0.length < 4) = false := decide_eq_false (by omega)
    clear c6
    (first | rw [c6b0] | (simp only [i64_w, i32_w]; rw [c6b0]) | skip)
    replace H := Option.bind_eq_some_iff.mp H; obtain ⟨t235, A80, H⟩ := H; replace H : (if t235 = true then (if 0 ≤ a1 then (if a1 < (l0.length : Int) then (spec_CutEar.j0 k l0 a1 (l0.length : Int) ((rd l0 a1) != 1)) else (none)) else (none)) else (spec_CutEar.j0 k l0 a1 (l0.length : Int) true)) = some (r1, r2) := H
    have A8 := Aside0.mk A80; clear A80
    by_cases c9 : t235 = true
    ·subst c9
     have H1 : (if 0 ≤ a1 then (if a1 < (l0.length : Int) then (spec_CutEar.j0 k l0 a1 (l0.length : Int) ((rd l0 a1) != 1)) else (none)) else (none)) = some (r1, r2) := by rw [if_pos rfl] at H; exact H
     clear H; have H := H1; clear H1
     by_cases c10 : 0 ≤ a1
     ·rw [if_pos c10] at H
      have c10b0 : decide (0 ≤ a1) = true := decide_eq_true c10; clear c10
      by_cases c11 : a1 < (l0.length : Int)
      ·rw [if_pos c11] at H
       have c11b0 : decide (a1 < (l0.length : Int)) = true := decide_eq_true c11; clear c11; have H' := Aside0.mk H; clear H
       go_wp2_with (first | ((with_reducible refine gate_callee (f := 28) rfl ?_); refine goesL_ (some 11) rfl rfl Try.func28 (by kernel_rfl) rfl #[.slice A0 l0.length c0] rfl (by (try simp only [List.map_toArray, List.map_cons, List.map_nil]); first | done | rfl | (simp only [List.length_drop, List.length_take]; rfl)) ?_; (with_reducible refine (spec_IsQuiddity.calls k _ _ l0 true _ ?side1 ?side2 A4.out).mono ?_); (case side1 => repeat (first | exact (Kd.C_below HR0.out HB.out) | (with_reducible refine Kd.C_alloc ?_ _) | (with_reducible refine Kd.C_drewN ?_ _) | (with_reducible refine Kd.C_drew ?_))); (case side2 => exact HC0.out); rintro e w12 ⟨rfl, hb⟩; refine ⟨_, rfl, ?_⟩; have n0_ := Aside0.mk (below_step (bl_ HB.out) hb); clear HB; have HB := n0_; clear n0_; (try clear hb); (try clear hb2); (try clear hk); (try clear hi)) | (go_at_call 59; (with_reducible refine (spec_l1In.calls a1 0 (wrap64 ((l0.length : Int) - 1)) true _ A8.out).mono ?_); rintro e w' ⟨rfl, ⟨nd, rfl⟩⟩; have p236 : 0 ≤ (a1 : Int) := of_decide_eq_true as_; have q236 : a1 < (l0.length : Int) := of_decide_eq_true as_; obtain ⟨ad236, e236, hx236_0⟩ := Kd.at_int HR0.out a1 p236 q236; cases e236; replace hx236_0 := (HB.out.cell (World.block_lt_of_cell? w _ hx236_0)).trans hx236_0; replace p236 := eq_true p236; replace q236 := eq_true q236))
       go_meet
       case rel => exact ⟨_, (((rd l0 a1) != 1)), (fs_), H', ⟨by first | omega | exact Nat.le_refl _⟩, ⟨bl_ HB.out⟩⟩
      ·rw [if_neg c11] at H
       exact absurd H (by simp)
     ·rw [if_neg c10] at H
      exact absurd H (by simp)
    ·replace c9 := Bool.eq_false_iff.mpr c9
     subst c9; have H1 : (spec_CutEar.j0 k l0 a1 (l0.length : Int) true) = some (r1, r2) := by rw [if_neg (show ¬ (false = true) by decide)] at H; exact H
     clear H; have H := H1; clear H1; have H' := Aside0.mk H; clear H
     go_wp2_with (first | ((with_reducible refine gate_callee (f := 28) rfl ?_); refine goesL_ (some 11) rfl rfl Try.func28 (by kernel_rfl) rfl #[.slice A0 l0.length c0] rfl (by (try simp only [List.map_toArray, List.map_cons, List.map_nil]); first | done | rfl | (simp only [List.length_drop, List.length_take]; rfl)) ?_; (with_reducible refine (spec_IsQuiddity.calls k _ _ l0 true _ ?side1 ?side2 A4.out).mono ?_); (case side1 => repeat (first | exact (Kd.C_below HR0.out HB.out) | (with_reducible refine Kd.C_alloc ?_ _) | (with_reducible refine Kd.C_drewN ?_ _) | (with_reducible refine Kd.C_drew ?_))); (case side2 => exact HC0.out); rintro e w13 ⟨rfl, hb⟩; refine ⟨_, rfl, ?_⟩; have n0_ := Aside0.mk (below_step (bl_ HB.out) hb); clear HB; have HB := n0_; clear n0_; (try clear hb); (try clear hb2); (try clear hk); (try clear hi)) | (go_at_call 59; (with_reducible refine (spec_l1In.calls a1 0 (wrap64 ((l0.length : Int) - 1)) false _ A8.out).mono ?_); rintro e w' ⟨rfl, ⟨nd, rfl⟩⟩))
     go_meet
     case rel => exact ⟨_, (true), (fs_), H', ⟨by first | omega | exact Nat.le_refl _⟩, ⟨bl_ HB.out⟩⟩
  ·replace c5 := Bool.eq_false_iff.mpr c5
   subst c5; have H1 : (spec_CutEar.j0 k l0 a1 (l0.length : Int) true) = some (r1, r2) := by rw [if_neg (show ¬ (false = true) by decide)] at H; exact H
   clear H; have H := H1; clear H1; have H' := Aside0.mk H; clear H
   go_wp2_with (first | ((with_reducible refine gate_callee (f := 28) rfl ?_); refine goesL_ (some 11) rfl rfl Try.func28 (by kernel_rfl) rfl #[.slice A0 l0.length c0] rfl (by (try simp only [List.map_toArray, List.map_cons, List.map_nil]); first | done | rfl | (simp only [List.length_drop, List.length_take]; rfl)) ?_; (with_reducible refine (spec_IsQuiddity.calls k _ _ l0 false _ ?side1 ?side2 A4.out).mono ?_); (case side1 => repeat (first | exact (Kd.C_below HR0.out HB.out) | (with_reducible refine Kd.C_alloc ?_ _) | (with_reducible refine Kd.C_drewN ?_ _) | (with_reducible refine Kd.C_drew ?_))); (case side2 => exact HC0.out); rintro e w14 ⟨rfl, hb⟩; refine ⟨_, rfl, ?_⟩; have n0_ := Aside0.mk (below_step (bl_ HB.out) hb); clear HB; have HB := n0_; clear n0_; (try clear hb); (try clear hb2); (try clear hk); (try clear hi)))
   go_meet
   case rel => exact ⟨_, (true), (fs_), H', ⟨by first | omega | exact Nat.le_refl _⟩, ⟨bl_ HB.out⟩⟩
 case rest =>
  clear HC3
  try clear c1
  try clear c2
  try clear p2
  try clear q2
  try clear hx2
  try clear c3
  try clear c5
  try clear c6
  try clear c6b0
  try clear c6b1
  try clear p6
  try clear c9
  try clear c10
  try clear c10b0
  try clear c11
  try clear c11b0
  try clear hx236_0
  try clear p236
  try clear q236
  obtain ⟨kq, x30_2, rfl, HA, HJ2, HB⟩ := hcut
  cases kq with
  | zero => exact absurd HA.out (by simp [spec_CutEar.j0])
  | succ kj2 =>
   have H := HA.out; clear HA
   simp only [spec_CutEar.j0] at H
   by_cases c15 : x30_2 = true
   ·subst c15
    have H1 : (some (([] : List Int), false)) = some (r1, r2) := by rw [if_pos rfl] at H; exact H
    clear H; have H := H1; clear H1
    simp only [Option.some.injEq, Prod.mk.injEq] at H
    obtain ⟨rfl, rfl⟩ := H
    go_wp2
    go_ret2
    exact ⟨_, by first | rfl | (simp [errW_none, errW_some] <;> rfl) | (simp [*, errW_none, errW_some] <;> rfl), by first | exact Kd.R_nil _ _ _ _ _ | exact Kd.N_nil _ _ _ _ _ | exact Kd.V_nil _ _ _ _ _ | exact Kd.Q_nil _ _ _ _ _ | exact Kd.S_nil _ _ _ _ _, bl_ HB.out⟩
   ·replace c15 := Bool.eq_false_iff.mpr c15
    subst c15; have H1 : ((spec_l1Own.f l0).bind fun t237 => (if (l0.length : Int) = 0 then (none) else (if 0 ≤ (Int.tmod (wrap64 ((wrap64 (a1 + (l0.length : Int))) - 1)) (l0.length : Int)) then (if (Int.tmod (wrap64 ((wrap64 (a1 + (l0.length : Int))) - 1)) (l0.length : Int)) < (t237.length : Int) then ((some (t237.set ((Int.tmod (wrap64 ((wrap64 (a1 + (l0.length : Int))) - 1)) (l0.length : Int)) : Int).toNat (wrap64 ((rd t237 (Int.tmod (wrap64 ((wrap64 (a1 + (l0.length : Int))) - 1)) (l0.length : Int))) - 1)) : List Int)).bind fun y241 => (if 0 ≤ (Int.tmod (wrap64 (a1 + 1)) (l0.length : Int)) then (if (Int.tmod (wrap64 (a1 + 1)) (l0.length : Int)) < (t237.length : Int) then ((some (y241.set ((Int.tmod (wrap64 (a1 + 1)) (l0.length : Int)) : Int).toNat (wrap64 ((rd y241 (Int.tmod (wrap64 (a1 + 1)) (l0.length : Int))) - 1)) : List Int)).bind fun y243 => (if 0 ≤ a1 then (if a1 ≤ (t237.length : Int) then ((spec_l1Own.f (y243.take (a1 : Int).toNat)).bind fun t248 => (if 0 ≤ (wrap64 (a1 + 1)) then (if (wrap64 (a1 + 1)) ≤ (t237.length : Int) then ((some (y243.drop ((wrap64 (a1 + 1)) : Int).toNat : List Int)).bind fun y251 => (if t248.length + y251.length < 17592186044416 then (some ((t248 ++ y251), true)) else (none))) else (none)) else (none))) else (none)) else (none))) else (none)) else (none))) else (none)) else (none)))) = some (r1, r2) := by rw [if_neg (show ¬ (false = true) by decide)] at H; exact H
    clear H; have H := H1; clear H1; replace H := Option.bind_eq_some_iff.mp H; obtain ⟨t237, A160, H⟩ := H; replace H : (if (l0.length : Int) = 0 then (none) else (if 0 ≤ (Int.tmod (wrap64 ((wrap64 (a1 + (l0.length : Int))) - 1)) (l0.length : Int)) then (if (Int.tmod (wrap64 ((wrap64 (a1 + (l0.length : Int))) - 1)) (l0.length : Int)) < (t237.length : Int) then ((some (t237.set ((Int.tmod (wrap64 ((wrap64 (a1 + (l0.length : Int))) - 1)) (l0.length : Int)) : Int).toNat (wrap64 ((rd t237 (Int.tmod (wrap64 ((wrap64 (a1 + (l0.length : Int))) - 1)) (l0.length : Int))) - 1)) : List Int)).bind fun y241 => (if 0 ≤ (Int.tmod (wrap64 (a1 + 1)) (l0.length : Int)) then (if (Int.tmod (wrap64 (a1 + 1)) (l0.length : Int)) < (t237.length : Int) then ((some (y241.set ((Int.tmod (wrap64 (a1 + 1)) (l0.length : Int)) : Int).toNat (wrap64 ((rd y241 (Int.tmod (wrap64 (a1 + 1)) (l0.length : Int))) - 1)) : List Int)).bind fun y243 => (if 0 ≤ a1 then (if a1 ≤ (t237.length : Int) then ((spec_l1Own.f (y243.take (a1 : Int).toNat)).bind fun t248 => (if 0 ≤ (wrap64 (a1 + 1)) then (if (wrap64 (a1 + 1)) ≤ (t237.length : Int) then ((some (y243.drop ((wrap64 (a1 + 1)) : Int).toNat : List Int)).bind fun y251 => (if t248.length + y251.length < 17592186044416 then (some ((t248 ++ y251), true)) else (none))) else (none)) else (none))) else (none)) else (none))) else (none)) else (none))) else (none)) else (none))) = some (r1, r2) := H
    have A16 := Aside0.mk A160; clear A160
    by_cases c17 : (l0.length : Int) = 0
    ·rw [if_pos c17] at H
     exact absurd H (by simp)
    ·rw [if_neg c17] at H
     have c17b0 : ((l0.length : Int) == 0) = false := beq_eq_false_iff_ne.mpr c17; have c17b1 : ((l0.length : Int) != 0) = true := bne_iff_ne.mpr c17; have c17b2 : ¬ (l0 = []) := fun h_ => c17 (by rw [h_]; rfl)
     obtain ⟨ji18, hji18⟩ : ∃ j_ : Int, (Int.tmod (wrap64 ((wrap64 (a1 + (l0.length : Int))) - 1)) (l0.length : Int)) = j_ := ⟨_, rfl⟩; replace H : (if 0 ≤ (ji18) then (if (ji18) < (t237.length : Int) then ((some (t237.set ((ji18) : Int).toNat (wrap64 ((rd t237 (ji18)) - 1)) : List Int)).bind fun y241 => (if 0 ≤ (Int.tmod (wrap64 (a1 + 1)) (l0.length : Int)) then (if (Int.tmod (wrap64 (a1 + 1)) (l0.length : Int)) < (t237.length : Int) then ((some (y241.set ((Int.tmod (wrap64 (a1 + 1)) (l0.length : Int)) : Int).toNat (wrap64 ((rd y241 (Int.tmod (wrap64 (a1 + 1)) (l0.length : Int))) - 1)) : List Int)).bind fun y243 => (if 0 ≤ a1 then (if a1 ≤ (t237.length : Int) then ((spec_l1Own.f (y243.take (a1 : Int).toNat)).bind fun t248 => (if 0 ≤ (wrap64 (a1 + 1)) then (if (wrap64 (a1 + 1)) ≤ (t237.length : Int) then ((some (y243.drop ((wrap64 (a1 + 1)) : Int).toNat : List Int)).bind fun y251 => (if t248.length + y251.length < 17592186044416 then (some ((t248 ++ y251), true)) else (none))) else (none)) else (none))) else (none)) else (none))) else (none)) else (none))) else (none)) else (none)) = some (r1, r2) := by first | (rw [hji18] at H; exact H) | (simp only [hji18] at H ⊢; exact H)
     (try rw [hji18] at A16)
     by_cases c19 : 0 ≤ (ji18)
     ·rw [if_pos c19] at H
      have c19b0 : decide (0 ≤ (ji18)) = true := decide_eq_true c19; clear c19
      by_cases c20 : (ji18) < (t237.length : Int)
      ·rw [if_pos c20] at H
       have c20b0 : decide ((ji18) < (t237.length : Int)) = true := decide_eq_true c20; clear c20; obtain ⟨y241, hy241⟩ : ∃ y_ : List Int, y_ = (t237.set ((ji18) : Int).toNat (wrap64 ((rd t237 (ji18)) - 1))) := ⟨_, rfl⟩; replace H : (if 0 ≤ (Int.tmod (wrap64 (a1 + 1)) (l0.length : Int)) then (if (Int.tmod (wrap64 (a1 + 1)) (l0.length : Int)) < (t237.length : Int) then ((some (y241.set ((Int.tmod (wrap64 (a1 + 1)) (l0.length : Int)) : Int).toNat (wrap64 ((rd y241 (Int.tmod (wrap64 (a1 + 1)) (l0.length : Int))) - 1)) : List Int)).bind fun y243 => (if 0 ≤ a1 then (if a1 ≤ (t237.length : Int) then ((spec_l1Own.f (y243.take (a1 : Int).toNat)).bind fun t248 => (if 0 ≤ (wrap64 (a1 + 1)) then (if (wrap64 (a1 + 1)) ≤ (t237.length : Int) then ((some (y243.drop ((wrap64 (a1 + 1)) : Int).toNat : List Int)).bind fun y251 => (if t248.length + y251.length < 17592186044416 then (some ((t248 ++ y251), true)) else (none))) else (none)) else (none))) else (none)) else (none))) else (none)) else (none)) = some (r1, r2) := rh_ hy241 H
       have Ny241 := Aside0.mk hy241; clear hy241; obtain ⟨ji22, hji22⟩ : ∃ j_ : Int, (Int.tmod (wrap64 (a1 + 1)) (l0.length : Int)) = j_ := ⟨_, rfl⟩; replace H : (if 0 ≤ (ji22) then (if (ji22) < (t237.length : Int) then ((some (y241.set ((ji22) : Int).toNat (wrap64 ((rd y241 (ji22)) - 1)) : List Int)).bind fun y243 => (if 0 ≤ a1 then (if a1 ≤ (t237.length : Int) then ((spec_l1Own.f (y243.take (a1 : Int).toNat)).bind fun t248 => (if 0 ≤ (wrap64 (a1 + 1)) then (if (wrap64 (a1 + 1)) ≤ (t237.length : Int) then ((some (y243.drop ((wrap64 (a1 + 1)) : Int).toNat : List Int)).bind fun y251 => (if t248.length + y251.length < 17592186044416 then (some ((t248 ++ y251), true)) else (none))) else (none)) else (none))) else (none)) else (none))) else (none)) else (none)) = some (r1, r2) := by first | (rw [hji22] at H; exact H) | (simp only [hji22] at H ⊢; exact H)
       (try rw [hji22] at A16)
       by_cases c23 : 0 ≤ (ji22)
       ·rw [if_pos c23] at H
        have c23b0 : decide (0 ≤ (ji22)) = true := decide_eq_true c23; clear c23
        by_cases c24 : (ji22) < (t237.length : Int)
        ·rw [if_pos c24] at H
         have c24b0 : decide ((ji22) < (t237.length : Int)) = true := decide_eq_true c24; clear c24; obtain ⟨y243, hy243⟩ : ∃ y_ : List Int, y_ = (y241.set ((ji22) : Int).toNat (wrap64 ((rd y241 (ji22)) - 1))) := ⟨_, rfl⟩; replace H : (if 0 ≤ a1 then (if a1 ≤ (t237.length : Int) then ((spec_l1Own.f (y243.take (a1 : Int).toNat)).bind fun t248 => (if 0 ≤ (wrap64 (a1 + 1)) then (if (wrap64 (a1 + 1)) ≤ (t237.length : Int) then ((some (y243.drop ((wrap64 (a1 + 1)) : Int).toNat : List Int)).bind fun y251 => (if t248.length + y251.length < 17592186044416 then (some ((t248 ++ y251), true)) else (none))) else (none)) else (none))) else (none)) else (none)) = some (r1, r2) := rh_ hy243 H
         have Ny243 := Aside0.mk hy243; clear hy243
         by_cases c26 : 0 ≤ a1
         ·rw [if_pos c26] at H
          have c26b0 := eq_true c26; have c26b1 : decide (0 ≤ a1) = true := decide_eq_true c26; clear c26
          by_cases c27 : a1 ≤ (t237.length : Int)
          ·rw [if_pos c27] at H
           have c27b0 := eq_true c27; have c27b1 : decide (a1 ≤ (t237.length : Int)) = true := decide_eq_true c27; clear c27; obtain ⟨y244, hy244⟩ : ∃ y_ : List Int, y_ = (y243.take (a1 : Int).toNat) := ⟨_, rfl⟩; replace H : ((spec_l1Own.f y244).bind fun t248 => (if 0 ≤ (wrap64 (a1 + 1)) then (if (wrap64 (a1 + 1)) ≤ (t237.length : Int) then ((some (y243.drop ((wrap64 (a1 + 1)) : Int).toNat : List Int)).bind fun y251 => (if t248.length + y251.length < 17592186044416 then (some ((t248 ++ y251), true)) else (none))) else (none)) else (none))) = some (r1, r2) := rh_ hy244 H
           have Ny244 := Aside0.mk hy244; clear hy244; replace H := Option.bind_eq_some_iff.mp H; obtain ⟨t248, A280, H⟩ := H; replace H : (if 0 ≤ (wrap64 (a1 + 1)) then (if (wrap64 (a1 + 1)) ≤ (t237.length : Int) then ((some (y243.drop ((wrap64 (a1 + 1)) : Int).toNat : List Int)).bind fun y251 => (if t248.length + y251.length < 17592186044416 then (some ((t248 ++ y251), true)) else (none))) else (none)) else (none)) = some (r1, r2) := H
           have A28 := Aside0.mk A280; clear A280; obtain ⟨ji29, hji29⟩ : ∃ j_ : Int, (wrap64 (a1 + 1)) = j_ := ⟨_, rfl⟩; replace H : (if 0 ≤ (ji29) then (if (ji29) ≤ (t237.length : Int) then ((some (y243.drop ((ji29) : Int).toNat : List Int)).bind fun y251 => (if t248.length + y251.length < 17592186044416 then (some ((t248 ++ y251), true)) else (none))) else (none)) else (none)) = some (r1, r2) := by first | (rw [hji29] at H; exact H) | (simp only [hji29] at H ⊢; exact H)
           (try rw [hji29] at A16)
           (try rw [hji29] at A28)
           have hji29w : (IntKind.i64.wrap (a1 + 1)) = ji29 := (i64_w _).trans hji29
           (try (have hjx18_29 := hji18; rw [hji29] at hjx18_29))
           (try (have hjx22_29 := hji22; rw [hji29] at hjx22_29))
           (try (have hjx29_29 := hji29; rw [hji29] at hjx29_29))
           by_cases c30 : 0 ≤ (ji29)
           ·rw [if_pos c30] at H
            have c30b0 := eq_true c30; have c30b1 : decide (0 ≤ (ji29)) = true := decide_eq_true c30; clear c30
            by_cases c31 : (ji29) ≤ (t237.length : Int)
            ·rw [if_pos c31] at H
             have c31b0 := eq_true c31; have c31b1 : decide ((ji29) ≤ (t237.length : Int)) = true := decide_eq_true c31; clear c31; obtain ⟨y251, hy251⟩ : ∃ y_ : List Int, y_ = (y243.drop ((ji29) : Int).toNat) := ⟨_, rfl⟩; replace H : (if t248.length + y251.length < 17592186044416 then (some ((t248 ++ y251), true)) else (none)) = some (r1, r2) := rh_ hy251 H
             have Ny251 := Aside0.mk hy251; clear hy251
             by_cases c32 : t248.length + y251.length < 17592186044416
             ·rw [if_pos c32] at H
              have LMc32 := Aside0.mk c32; clear c32; obtain ⟨y255, hy255⟩ : ∃ y_ : List Int, y_ = (t248 ++ y251) := ⟨_, rfl⟩; replace H : (some (y255, true)) = some (r1, r2) := rh_ hy255 H; have Ny255 := Aside0.mk hy255; clear hy255
              simp only [Option.some.injEq, Prod.mk.injEq] at H
              obtain ⟨rfl, rfl⟩ := H
              try go_wp2_with (first | ((with_reducible refine gate_callee (f := 70) rfl ?_); refine goesL_ (some 32) rfl rfl Try.func70 (by kernel_rfl) rfl #[.slice A0 l0.length c0] rfl (by (try simp only [List.map_toArray, List.map_cons, List.map_nil]); first | done | rfl | (simp only [List.length_drop, List.length_take]; rfl)) ?_; (with_reducible refine (spec_l1Own.calls _ _ l0 t237 _ ?side1 ?side2 A16.out).mono ?_); (case side1 => repeat (first | exact (Kd.C_below HR0.out HB.out) | (with_reducible refine Kd.C_alloc ?_ _) | (with_reducible refine Kd.C_drewN ?_ _) | (with_reducible refine Kd.C_drew ?_))); (case side2 => exact HC0.out); rintro e w33 ⟨v238, rfl, ho0, hb⟩; refine ⟨_, rfl, ?_⟩; have n0_ := Aside0.mk (Kd.R_lower ho0 (below_size (bl_ HB.out))); have n1_ := Aside0.mk (below_step (bl_ HB.out) hb); clear HB; have HO239 := n0_; have HB := n1_; clear n0_ n1_; (try clear hb); (try clear hb2); (try clear hk); (try clear hi); (try clear ho0); obtain ⟨Ao34, co34, eo34⟩ := Kd.R_slice HO239.out; subst eo34; have p240 : 0 ≤ ((ji18) : Int) := of_decide_eq_true as_; have q240 : (ji18) < (t237.length : Int) := of_decide_eq_true as_; obtain ⟨ad240, e240, hx240_0⟩ := Kd.at_int (Kd.R_reads' HO239.out).2.2 (ji18) p240 q240; cases e240; replace p240 := eq_true p240; replace q240 := eq_true q240; have p21 : 0 ≤ ((ji18) : Int) := of_decide_eq_true as_; have q21 : ((ji18) : Int) < ((t237.length : Int) : Int) := of_decide_eq_true as_; obtain ⟨go21, co21, eo21, gb21, gl21, cl21, HG21⟩ := Kd.R_form HO239.out (by omega); (first | cases eo21 | (injection eo21 with ea_ en_ ec_; (first | subst ea_ | (injection ea_ with ea_; subst ea_)); subst ec_; clear en_)); have GB21 := Aside0.mk gb21; have GG21 := Aside0.mk HG21; clear gb21 gl21 HG21; (first | simp only [add_plain] at hx240_0 | skip); obtain ⟨hx21_0, hf21_0⟩ := Kd.R_celln 0 HO239.out ((ji18) : Int) p21 q21; replace p21 := eq_true p21; replace q21 := eq_true q21; obtain ⟨hy35_, hz35_⟩ := Kd.R_celln 0 HO239.out ((ji18) : Int) (of_decide_eq_true as_) (of_decide_eq_true as_); have HP35 := Kd.R_putg HO239.out ((ji18) : Int) (wrap64 ((rd t237 (ji18)) - 1))) | ((with_reducible refine gate_store (t := 3) (p := 43) rfl ?_); refine store_event (t := 3) (p := 43) (v := ?vo_w36) (w1 := (w33.setCell ⟨go21, ((ji18) : Int).toNat, none⟩ (.int .i64 (wrap64 ((rd t237 (ji18)) - 1))))) ?hg ?ho ?hn ?hr ?_; (case ho => rfl); (case hg => rfl); (case hn => rfl); (case hr => first | (go_simp; done) | (go_simp; rfl)); intro w36 hw; have hg : w33.grownBy w36 (some go21) := (by rw [hw]; exact HP35.2); have hp_ : Kd.R (Kd.int .i64) 3 w36 w.heap.size (fun _ => True) (.slice (some ⟨go21, 0, none⟩) t237.length co34) y241 := (by rw [hw, Ny241.out]; exact HP35.1); clear HP35; have n0_ := Aside0.mk (hp_); have n1_ := Aside0.mk ((by rw [hw]; exact below_set (HB.out) GB21.out : Below w.heap.size w w36)); clear HO239; clear HB; have HO239 := n0_; have HB := n1_; clear n0_ n1_; clear hg hw hp_; have p242 : 0 ≤ ((ji22) : Int) := of_decide_eq_true as_; have q242 : (ji22) < (y241.length : Int) := (by have h_ : ((ji22) : Int) < ((t237.length : Int) : Int) := of_decide_eq_true as_; first | (have e_ := (Kd.R_reads' HO239.out).1; omega) | simpa only [Ny241.out, List.length_set] using h_); have ql242 : (((ji22) : Int) < ((t237.length : Int) : Int)) = True := eq_true (of_decide_eq_true as_); obtain ⟨ad242, e242, hx242_0⟩ := Kd.at_int (Kd.R_reads' HO239.out).2.2 (ji22) p242 q242; obtain rfl : (⟨go21, 0, none⟩ : Addr) = ad242 := (by injection e242); (first | simp only [add_plain] at hx242_0 | simp only [add_at] at hx242_0 | simp only [Addr.add, Nat.zero_add] at hx242_0 | skip); replace p242 := eq_true p242; replace q242 := eq_true q242; have p25 : 0 ≤ ((ji22) : Int) := of_decide_eq_true as_; have q25 : ((ji22) : Int) < ((t237.length : Int) : Int) := of_decide_eq_true as_; obtain ⟨hx25_0, hf25_0⟩ := Kd.R_celln 0 HO239.out ((ji22) : Int) p25 q25; replace p25 := eq_true p25; replace q25 := eq_true q25; obtain ⟨hy37_, hz37_⟩ := Kd.R_celln 0 HO239.out ((ji22) : Int) (of_decide_eq_true as_) (of_decide_eq_true as_); have HP37 := Kd.R_putg HO239.out ((ji22) : Int) (wrap64 ((rd y241 (ji22)) - 1))) | ((with_reducible refine gate_store (t := 3) (p := 52) rfl ?_); refine store_event (t := 3) (p := 52) (v := ?vo_w38) (w1 := (w36.setCell ⟨go21, ((ji22) : Int).toNat, none⟩ (.int .i64 (wrap64 ((rd y241 (ji22)) - 1))))) ?hg ?ho ?hn ?hr ?_; (case ho => rfl); (case hg => rfl); (case hn => rfl); (case hr => first | (go_simp; done) | (go_simp; rfl)); intro w38 hw; have hg : w36.grownBy w38 (some go21) := (by rw [hw]; exact HP37.2); have hp_ : Kd.R (Kd.int .i64) 3 w38 w.heap.size (fun _ => True) (.slice (some ⟨go21, 0, none⟩) t237.length co34) y243 := (by rw [hw, Ny243.out]; exact HP37.1); clear HP37; have n0_ := Aside0.mk (hp_); have n1_ := Aside0.mk ((by rw [hw]; exact below_set (HB.out) GB21.out : Below w.heap.size w w38)); clear HO239; clear HB; have HO239 := n0_; have HB := n1_; clear n0_ n1_; clear hg hw hp_))
              have n0_ := Aside0.mk (Kd.R_drew HO239.out); have n1_ := Aside0.mk (below_drew1 HB.out); clear HO239; clear HB; have HO239 := n0_; have HB := n1_; clear n0_ n1_; have hlx40 := (Kd.R_reads' HO239.out).1; have q40 : (a1 : Int) ≤ ((t237.length : Int) : Int) := of_decide_eq_true as_; obtain ⟨i040, hi040, _, hsz40, _⟩ := info_parts info3; have hroom40 : t237.length ≤ co34 := (Kd.R_reads' HO239.out).2.1; have hroomc40 : y243.length ≤ co34 := (by rw [← hlx40]; exact hroom40)
              have hC40 : Kd.C (Kd.int .i64) _ (some ⟨go21, 0, none⟩) y243.length y243 := (Kd.R_reads' HO239.out).2.2; have hcut40 := cut_to (P := Try.prog) 37 3 .i64 Try.underlying37 hi040 (some ⟨go21, 0, none⟩) t237.length co34 a1 (of_decide_eq_true as_) q40 hroom40; have hr40 := Kd.C_take (m := (a1 : Int).toNat) hC40 (by omega)
              have hy40 : y244.length = (a1 : Int).toNat := (by rw [Ny244.out, List.length_take]; omega)
              rw [← Ny244.out] at hr40
              rw [← hy40] at hcut40
              have HR247 := Aside0.mk hr40; have HC247 := Aside0.mk (show y244.length ≤ co34 from by omega)
              clear hr40 hC40 hroom40 hi040 hsz40 hroomc40; have KY40 := Aside0.mk hy40; clear hy40; have KE40 := Aside0.mk hlx40; have KL40 := Aside0.mk (show (a1 : Int).toNat ≤ y243.length from by omega)
              clear hlx40; replace q40 := eq_true q40; have hlx41 := (Kd.R_reads' HO239.out).1; have q41 : ((ji29) : Int) ≤ ((t237.length : Int) : Int) := of_decide_eq_true as_; obtain ⟨i041, hi041, _, hsz41, _⟩ := info_parts info3; have hroom41 : t237.length ≤ co34 := (Kd.R_reads' HO239.out).2.1; have hroomc41 : y243.length ≤ co34 := (by rw [← hlx41]; exact hroom41)
              have hC41 : Kd.C (Kd.int .i64) _ (some ⟨go21, 0, none⟩) y243.length y243 := (Kd.R_reads' HO239.out).2.2; have q041 : (0 : Int) ≤ ((ji29) : Int) := of_decide_eq_true as_; have hcut41 := cut_from (P := Try.prog) 37 3 .i64 Try.underlying37 hi041 1 hsz41 (some ⟨go21, 0, none⟩) t237.length co34 (ji29) q041 q41; have hr41 := Kd.C_drop (m := ((ji29) : Int).toNat) (c := co34) hC41 (by omega) hroomc41
              obtain ⟨A41, hA41⟩ : ∃ A1, A1 = (if co34 = ((ji29) : Int).toNat then (some ⟨go21, 0, none⟩) else ((some ⟨go21, 0, none⟩) : Option Addr).map (·.add (((ji29) : Int).toNat * 1))) := ⟨_, rfl⟩
              obtain ⟨c41, hc41⟩ : ∃ c1, c1 = co34 - ((ji29) : Int).toNat := ⟨_, rfl⟩; have hy41 : y251.length = t237.length - ((ji29) : Int).toNat := (by rw [Ny251.out, List.length_drop] <;> omega)
              rw [show (y243).drop ((ji29) : Int).toNat = y251 from Ny251.out.symm] at hr41
              replace hr41 : Kd.C (Kd.int .i64) _ A41 y251.length y251 := (by rw [hA41]; exact hr41)
              rw [← hy41, ← hA41, ← hc41] at hcut41
              have HR254 := Aside0.mk hr41; have HC254 := Aside0.mk (show y251.length ≤ c41 from by rw [hy41, hc41]; exact Nat.sub_le_sub_right hroom41 _)
              clear hr41 hC41 hroom41 hi041 hsz41 hc41 hroomc41; have KY41 := Aside0.mk hy41; have KA41 := Aside0.mk hA41; clear hy41 hA41; have KE41 := Aside0.mk hlx41; have KL41 := Aside0.mk (show ((ji29) : Int).toNat ≤ y243.length from by omega)
              clear hlx41; replace q41 := eq_true q41; refine start_ (n := 11) (S := fun w' => True) (ds := []) #[false, false, false, false, false, false, false, false, false, false, false] (by kernel_rfl) rfl rfl trivial (fun hHeld => ?_); refine with_tabW spec_CutEar.tab7 spec_CutEar.bits7 (fun HT_ HW_ => ?_)
              generalize w38.drew = w39 at HO239 HB HR247 HR254 hHeld ⊢
              refine pa_ 0 (some 53) rfl rfl HT_ ?_; refine pa_ 1 (some 54) rfl rfl HT_ ?_; refine pa_ 2 (some 55) rfl rfl HT_ ?_; refine pa_ 4 (some 57) rfl rfl HT_ ?_; refine pa_ 5 (some 58) rfl rfl HT_ ?_; refine pa_ 6 (some 59) rfl rfl HT_ ?_; refine pa_ 7 (some 60) rfl rfl HT_ ?_; refine one_ (i := 3) (N := some 56) #[true, true, true, true, true, true, true, true, false, false, false] rfl rfl (one_of HT_.out (by kernel_rfl)) (by decide) (fun K hK => ?_)
              refine goes_ Try.func70 (by kernel_rfl) rfl #[.slice (some ⟨go21, 0, none⟩) y244.length co34] (by rfl) rfl rfl (by (try simp only [List.map_toArray, List.map_cons, List.map_nil]); first | done | rfl | (simp only [List.length_drop, List.length_take]; rfl)) ?_
              with_reducible refine (spec_l1Own.calls _ _ y244 t248 _ ?side1 ?side2 A28.out).mono ?_
              (case side1 => repeat (first | exact (by repeat (first | (with_reducible exact HR247.out) | (with_reducible refine Kd.C_alloc ?_ _) | (with_reducible refine Kd.C_drewN ?_ _) | (with_reducible refine Kd.C_drew ?_) | exact HR247.out)) | (with_reducible refine Kd.C_alloc ?_ _) | (with_reducible refine Kd.C_drewN ?_ _) | (with_reducible refine Kd.C_drew ?_)))
              (case side2 => exact HC247.out)
              rintro e w42 ⟨v249, rfl, ho0, hb⟩
              refine ⟨_, rfl, ?_⟩; have n0_ := Aside0.mk (Kd.R_elder' (kr_ HO239.out) (Kd.R_base ho0) hb); have n1_ := Aside0.mk (Kd.R_lower (Kd.R_new' ho0 (Kd.R_lt (kr_ HO239.out))) (below_size (bl_ HB.out))); have n2_ := Aside0.mk (Kd.C_below (by repeat (first | (with_reducible exact HR247.out) | (with_reducible refine Kd.C_alloc ?_ _) | (with_reducible refine Kd.C_drewN ?_ _) | (with_reducible refine Kd.C_drew ?_) | exact HR247.out)) hb)
              have n3_ := Aside0.mk (Kd.C_below (by repeat (first | (with_reducible exact HR254.out) | (with_reducible refine Kd.C_alloc ?_ _) | (with_reducible refine Kd.C_drewN ?_ _) | (with_reducible refine Kd.C_drew ?_) | exact HR254.out)) hb)
              have n4_ := Aside0.mk (below_step (bl_ HB.out) hb); clear HO239; clear HR247; clear HR254; clear HB; have HO239 := n0_; have HO250 := n1_; have HR247 := n2_; have HR254 := n3_; have HB := n4_; clear n0_ n1_ n2_ n3_ n4_
              (try clear hb)
              (try clear hb2)
              (try clear hk)
              (try clear hi)
              (try clear ho0)
              refine hK.out _ _ trivial (fun hHeld => ?_)
              clear hK K; refine na_ (some 56) ?_; refine one_ (i := 8) (N := some 61) #[true, true, true, true, true, true, true, true, true, false, false] rfl rfl (one_of HT_.out (by kernel_rfl)) (by decide) (fun K hK => ?_)
              refine Kd.R_append_rows_step (Kd.int .i64) (w0 := w) w.heap.size (by rfl) (.tmp 56) (.tmp 60) 37 3 (.int .i64 0) 8 rfl Try.underlying37 info3 rfl (by decide) (by omega) v249 t248 y251 _ _ _ (fun k_ => some k_ ≠ (.slice (some ⟨go21, 0, none⟩) t237.length co34 : Value).ownBlock) (fun _ => False) rfl rfl ?aO ?aR (fun _ _ h => h) (fun _ h => h.elim) ?aF ?aB ?aS ?aL ?_
              (case aR => repeat (first | exact (by repeat (first | (with_reducible exact HR254.out) | (with_reducible refine Kd.C_alloc ?_ _) | (with_reducible refine Kd.C_drewN ?_ _) | (with_reducible refine Kd.C_drew ?_) | exact HR254.out)) | (with_reducible refine Kd.C_alloc ?_ _) | (with_reducible refine Kd.C_drewN ?_ _) | (with_reducible refine Kd.C_drew ?_)))
              (case aB => exact (bl_ HB.out))
              (case aF => exact (fun k_ hk => Kd.fresh' (Kd.R_lt (kr_ HO239.out)) k_ hk))
              (case aO => exact (by (with_reducible repeat (first | apply Kd.R_alloc | apply Kd.R_drewN | apply Kd.R_drew)); exact Kd.R_mono HO250.out (fun _ hk => hk.2)))
              (case aS => exact (below_size (bl_ HB.out)))
              (case aL => have := LMc32.out; omega)
              intro v256 w43 ho hb hg hat; rw [← Ny255.out] at ho
              have n0_ := Aside0.mk (Kd.R_after (ok := (fun _ => True)) (kr_ HO239.out) hg hat)
              have n1_ := Aside0.mk (hb); have n2_ := Aside0.mk ((show Kd.C (Kd.int .i64) w43 (some ⟨go21, 0, none⟩) y244.length y244 from by rw [Ny244.out]; exact Kd.C_take (m := (a1 : Int).toNat) ((Kd.R_reads' (Kd.R_after (ok := (fun _ => True)) (kr_ HO239.out) hg hat)).2.2) KL40.out))
              have n3_ := Aside0.mk ((show Kd.C (Kd.int .i64) w43 A41 y251.length y251 from by rw [Ny251.out, KA41.out]; exact Kd.C_drop (m := ((ji29) : Int).toNat) (c := co34) ((Kd.R_reads' (Kd.R_after (ok := (fun _ => True)) (kr_ HO239.out) hg hat)).2.2) KL41.out (by rw [← KE41.out]; exact (Kd.R_reads' (Kd.R_after (ok := (fun _ => True)) (kr_ HO239.out) hg hat)).2.1)))
              have n4_ := Aside0.mk (ho); clear HO239; clear HB; clear HR247; clear HR254; clear HO250; have HO239 := n0_; have HB := n1_; have HR247 := n2_; have HR254 := n3_; have HO257 := n4_; clear n0_ n1_ n2_ n3_ n4_; clear ho hb hg hat; refine hK.out _ _ trivial (fun hHeld => ?_)
              clear hK K; refine na_ (some 61) ?_; refine pa_ 9 (some 4) rfl rfl HT_ ?_; refine pa_ 10 (some 5) rfl rfl HT_ ?_; refine done_ (done_of HT_.out (by kernel_rfl)) ?_
              try go_wp2
              go_ret2
              exact ⟨_, by first | rfl | (simp [errW_none, errW_some] <;> rfl) | (simp only [← hji18, ← hji22, ← hji29]; first | rfl | (simp [errW_none, errW_some] <;> rfl)) | (simp [*, errW_none, errW_some] <;> rfl), by (with_reducible repeat (first | apply Kd.R_alloc | apply Kd.R_drewN | apply Kd.R_drew)); exact Kd.R_mono HO257.out (fun _ hk => trivial), bl_ HB.out⟩
             ·rw [if_neg c32] at H
              exact absurd H (by simp)
            ·rw [if_neg c31] at H
             exact absurd H (by simp)
           ·rw [if_neg c30] at H
            exact absurd H (by simp)
          ·rw [if_neg c27] at H
           exact absurd H (by simp)
         ·rw [if_neg c26] at H
          exact absurd H (by simp)
        ·rw [if_neg c24] at H
         exact absurd H (by simp)
       ·rw [if_neg c23] at H
        exact absurd H (by simp)
      ·rw [if_neg c20] at H
       exact absurd H (by simp)
     ·rw [if_neg c19] at H
      exact absurd H (by simp)
end Go.Proofs.Ytinnmloliknilaa.PFnExactCutEar
