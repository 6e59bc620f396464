-- Written for this claim by a program of this session (wip/tools/xprint.py over the kit's printer, wip/tools/shrink.py).
import Derived.Test.YtinnmloliknilaaPFnExactCutEarx0
import Derived.Test.YtinnmloliknilaaPFnExactCutEarx6
import Derived.Test.YtinnmloliknilaaPFnExactCutEarx8
import Derived.Test.YtinnmloliknilaaPFnExactCutEarx12
namespace Go.Proofs.Ytinnmloliknilaa.PFnExactCutEar
open Go.RowKit Go.Proofs.YtinnmloliknilaaW.PrintWords Go.Proofs.YtinnmloliknilaaW.PrintLast Go.Proofs.YtinnmloliknilaaW.PrintMore
attribute [local go_sem] max2_int min2_int max_two min_two max_three min_three max_four min_four   -- for this text's walks alone
set_option linter.unusedVariables false
set_option linter.unusedSimpArgs false
def impl_IsQuiddity.f (k : Nat) (l0 : List Int) : Option (Bool) := (impl_triangulation.f k l0).bind fun bt358 => (some bt358.2)
set_option maxHeartbeats 8000000 in
set_option maxRecDepth 100000 in
theorem impl_IsQuiddity.calls (k : Nat) (A0 : Option Addr) (c0 : Nat) (l0 : List Int) (r : Bool) (w : World) (hr0 : Kd.C (Kd.int .i64) w A0 l0.length l0) (hc0 : l0.length ≤ c0) (h : impl_IsQuiddity.f k l0 = some r) :
  Calls Try.prog 30 #[.slice A0 l0.length c0] w fun e w' => e = .returned (.bool r) ∧ Below w.heap.size w w' := by
 have HR0 := Aside0.mk hr0; have HC0 := Aside0.mk hc0; clear hr0 hc0; have HB := Aside0.mk (Below.refl w.heap.size w); have H : ((impl_triangulation.f k l0).bind fun bt358 => (some bt358.2)) = some r := h
 clear h; replace H := Option.bind_eq_some_iff.mp H; obtain ⟨⟨t358, t359⟩, A20, H⟩ := H; replace H : (some t359) = some r := H; have A2 := Aside0.mk A20; clear A20; obtain rfl := Option.some.inj H
 go_enter Try.func30, Try.ntmps30
 go_wp2_with (first | ((with_reducible refine gate_callee (f := 66) rfl ?_); refine goesL_ (some 7) rfl rfl Try.func66 (by kernel_rfl) rfl #[.slice A0 l0.length c0] rfl (by (try simp only [List.map_toArray, List.map_cons, List.map_nil]); first | done | rfl | (simp only [List.length_drop, List.length_take]; rfl)) ?_; (with_reducible refine (impl_triangulation.calls k _ _ l0 t358 t359 _ ?side1 ?side2 A2.out).mono ?_); (case side1 => repeat (first | exact HR0.out | (with_reducible refine Kd.C_alloc ?_ _) | (with_reducible refine Kd.C_drewN ?_ _) | (with_reducible refine Kd.C_drew ?_))); (case side2 => exact HC0.out); rintro e w3 ⟨v360, rfl, ho0, hb⟩; refine ⟨_, rfl, ?_⟩; have n0_ := Aside0.mk (Kd.R_lower ho0 (below_size (bl_ HB.out))); have n1_ := Aside0.mk (below_step (bl_ HB.out) hb); clear HB; have HO361 := n0_; have HB := n1_; clear n0_ n1_; (try clear hb); (try clear hb2); (try clear hk); (try clear hi); (try clear ho0)))
 go_ret
 exact ⟨by first | rfl | (simp [errW_none, errW_some] <;> rfl) | (simp [*, errW_none, errW_some] <;> rfl), bl_ HB.out⟩
def impl_CutEar.j0 : Nat → List Int → Int → Int → Bool → Option (List Int × Bool)
 | 0, _, _, _, _ => none
 | k + 1, x0, x1, x6, x30 => if x30 = true then (some (([] : List Int), false)) else ((slices_Clone_int_int.f x0).bind fun t365 => (if x6 = 0 then (none) else (if 0 ≤ (Int.tmod (wrap64 ((wrap64 (x1 + x6)) - 1)) x6) then (if (Int.tmod (wrap64 ((wrap64 (x1 + x6)) - 1)) x6) < (t365.length : Int) then ((some (t365.set ((Int.tmod (wrap64 ((wrap64 (x1 + x6)) - 1)) x6) : Int).toNat (wrap64 ((rd t365 (Int.tmod (wrap64 ((wrap64 (x1 + x6)) - 1)) x6)) - 1)) : List Int)).bind fun y369 => (if 0 ≤ (Int.tmod (wrap64 (x1 + 1)) x6) then (if (Int.tmod (wrap64 (x1 + 1)) x6) < (t365.length : Int) then ((slices_Delete_int_int.f (y369.set ((Int.tmod (wrap64 (x1 + 1)) x6) : Int).toNat (wrap64 ((rd y369 (Int.tmod (wrap64 (x1 + 1)) x6)) - 1))) x1 (wrap64 (x1 + 1))).bind fun t372 => (some (t372, true))) else (none)) else (none))) else (none)) else (none))))
def impl_CutEar.f (k : Nat) (l0 : List Int) (a1 : Int) : Option (List Int × Bool) := (impl_IsQuiddity.f k l0).bind fun t362 => (if t362 = true then (if (l0.length : Int) < 4 then (impl_CutEar.j0 k l0 a1 (l0.length : Int) true) else ((impl_within.f a1 0 (wrap64 ((l0.length : Int) - 1))).bind fun t363 => (if t363 = true then (if 0 ≤ a1 then (if a1 < (l0.length : Int) then (impl_CutEar.j0 k l0 a1 (l0.length : Int) ((rd l0 a1) != 1)) else (none)) else (none)) else (impl_CutEar.j0 k l0 a1 (l0.length : Int) true)))) else (impl_CutEar.j0 k l0 a1 (l0.length : Int) true))
set_option maxHeartbeats 8000000 in
set_option maxRecDepth 100000 in
theorem impl_CutEar.calls (k : Nat) (A0 : Option Addr) (c0 : Nat) (l0 : List Int) (a1 : Int) (r1 : List Int) (r2 : Bool) (w : World) (hr0 : Kd.C (Kd.int .i64) w A0 l0.length l0) (hc0 : l0.length ≤ c0) (h : impl_CutEar.f k l0 a1 = some (r1, r2)) :
  Calls Try.prog 35 #[.slice A0 l0.length c0, .int .i64 a1] w fun e w' => ∃ v0_ : Value, e = .returned (.tuple #[v0_, .bool r2]) ∧ Kd.R (Kd.int .i64) 3 w' w.heap.size (fun _ => True) v0_ r1 ∧ Below w.heap.size w w' := by
 have HR0 := Aside0.mk hr0; have HC0 := Aside0.mk hc0; clear hr0 hc0; have HB := Aside0.mk (Below.refl w.heap.size w); have H : ((impl_IsQuiddity.f k l0).bind fun t362 => (if t362 = true then (if (l0.length : Int) < 4 then (impl_CutEar.j0 k l0 a1 (l0.length : Int) true) else ((impl_within.f a1 0 (wrap64 ((l0.length : Int) - 1))).bind fun t363 => (if t363 = true then (if 0 ≤ a1 then (if a1 < (l0.length : Int) then (impl_CutEar.j0 k l0 a1 (l0.length : Int) ((rd l0 a1) != 1)) else (none)) else (none)) else (impl_CutEar.j0 k l0 a1 (l0.length : Int) true)))) else (impl_CutEar.j0 k l0 a1 (l0.length : Int) true))) = some (r1, r2) := h
 clear h; have HC3 := Aside0.mk H; clear H
 go_enter Try.func35, Try.ntmps35
 go_upto_region 2 with (fail)
 go_cut [30] (fun v30 wc => ∃ (kq : Nat) (x30_2 : Bool), v30 = .bool x30_2 ∧ Aside0 (impl_CutEar.j0 kq l0 a1 (l0.length : Int) x30_2 = some (r1, r2)) ∧ Aside0 (kq ≤ k) ∧ Aside0 (Below w.heap.size w wc))
 case first =>
  have H := HC3.out; clear HC3; replace H := Option.bind_eq_some_iff.mp H; obtain ⟨t362, A40, H⟩ := H; replace H : (if t362 = true then (if (l0.length : Int) < 4 then (impl_CutEar.j0 k l0 a1 (l0.length : Int) true) else ((impl_within.f a1 0 (wrap64 ((l0.length : Int) - 1))).bind fun t363 => (if t363 = true then (if 0 ≤ a1 then (if a1 < (l0.length : Int) then (impl_CutEar.j0 k l0 a1 (l0.length : Int) ((rd l0 a1) != 1)) else (none)) else (none)) else (impl_CutEar.j0 k l0 a1 (l0.length : Int) true)))) else (impl_CutEar.j0 k l0 a1 (l0.length : Int) true)) = some (r1, r2) := H
  have A4 := Aside0.mk A40; clear A40
  by_cases c5 : t362 = true
  ·subst c5
   have H1 : (if (l0.length : Int) < 4 then (impl_CutEar.j0 k l0 a1 (l0.length : Int) true) else ((impl_within.f a1 0 (wrap64 ((l0.length : Int) - 1))).bind fun t363 => (if t363 = true then (if 0 ≤ a1 then (if a1 < (l0.length : Int) then (impl_CutEar.j0 k l0 a1 (l0.length : Int) ((rd l0 a1) != 1)) else (none)) else (none)) else (impl_CutEar.j0 k l0 a1 (l0.length : Int) true)))) = some (r1, r2) := by rw [if_pos rfl] at H; exact H
   clear H; have H := H1; clear H1
   by_cases c6 : (l0.length : Int) < 4
   ·rw [if_pos c6] at H
    have c6b0 : decide ((l0.length : Int) < 4) = true := decide_eq_true c6; have c6b1 : decide (l0.length < 4) = true := decide_eq_true (by omega)
    clear c6
    (first | rw [c6b0] | (simp only [i64_w, i32_w]; rw [c6b0]) | skip)
    have H' := Aside0.mk H; clear H
    go_wp2_with (first | ((with_reducible refine gate_callee (f := 30) rfl ?_); refine goesL_ (some 11) rfl rfl Try.func30 (by kernel_rfl) rfl #[.slice A0 l0.length c0] rfl (by (try simp only [List.map_toArray, List.map_cons, List.map_nil]); first | done | rfl | (simp only [List.length_drop, List.length_take]; rfl)) ?_; (with_reducible refine (impl_IsQuiddity.calls k _ _ l0 true _ ?side1 ?side2 A4.out).mono ?_); (case side1 => repeat (first | exact (Kd.C_below HR0.out HB.out) | (with_reducible refine Kd.C_alloc ?_ _) | (with_reducible refine Kd.C_drewN ?_ _) | (with_reducible refine Kd.C_drew ?_))); (case side2 => exact HC0.out); rintro e w7 ⟨rfl, hb⟩; refine ⟨_, rfl, ?_⟩; have n0_ := Aside0.mk (below_step (bl_ HB.out) hb); clear HB; have HB := n0_; clear n0_; (try clear hb); (try clear hb2); (try clear hk); (try clear hi)))
    go_meet
    case rel => exact ⟨_, (true), (fs_), H', ⟨by first | omega | exact Nat.le_refl _⟩, ⟨bl_ HB.out⟩⟩
   ·rw [if_neg c6] at H
    have c6b0 : decide ((l0.length : Int) < 4) = false := decide_eq_false c6; have c6b1 : decide (l0.length < 4) = false := decide_eq_false (by omega)
    clear c6
    (first | rw [c6b0] | (simp only [i64_w, i32_w]; rw [c6b0]) | skip)
    replace H := Option.bind_eq_some_iff.mp H; obtain ⟨t363, A80, H⟩ := H; replace H : (if t363 = true then (if 0 ≤ a1 then (if a1 < (l0.length : Int) then (impl_CutEar.j0 k l0 a1 (l0.length : Int) ((rd l0 a1) != 1)) else (none)) else (none)) else (impl_CutEar.j0 k l0 a1 (l0.length : Int) true)) = some (r1, r2) := H
    have A8 := Aside0.mk A80; clear A80
    by_cases c9 : t363 = true
    ·subst c9
     have H1 : (if 0 ≤ a1 then (if a1 < (l0.length : Int) then (impl_CutEar.j0 k l0 a1 (l0.length : Int) ((rd l0 a1) != 1)) else (none)) else (none)) = some (r1, r2) := by rw [if_pos rfl] at H; exact H
     clear H; have H := H1; clear H1
     by_cases c10 : 0 ≤ a1
     ·rw [if_pos c10] at H
      have c10b0 : decide (0 ≤ a1) = true := decide_eq_true c10; clear c10
      by_cases c11 : a1 < (l0.length : Int)
      ·rw [if_pos c11] at H
       have c11b0 : decide (a1 < (l0.length : Int)) = true := decide_eq_true c11; clear c11; have H' := Aside0.mk H; clear H
       go_wp2_with (first | ((with_reducible refine gate_callee (f := 30) rfl ?_); refine goesL_ (some 11) rfl rfl Try.func30 (by kernel_rfl) rfl #[.slice A0 l0.length c0] rfl (by (try simp only [List.map_toArray, List.map_cons, List.map_nil]); first | done | rfl | (simp only [List.length_drop, List.length_take]; rfl)) ?_; (with_reducible refine (impl_IsQuiddity.calls k _ _ l0 true _ ?side1 ?side2 A4.out).mono ?_); (case side1 => repeat (first | exact (Kd.C_below HR0.out HB.out) | (with_reducible refine Kd.C_alloc ?_ _) | (with_reducible refine Kd.C_drewN ?_ _) | (with_reducible refine Kd.C_drew ?_))); (case side2 => exact HC0.out); rintro e w12 ⟨rfl, hb⟩; refine ⟨_, rfl, ?_⟩; have n0_ := Aside0.mk (below_step (bl_ HB.out) hb); clear HB; have HB := n0_; clear n0_; (try clear hb); (try clear hb2); (try clear hk); (try clear hi)) | (go_at_call 61; (with_reducible refine (impl_within.calls a1 0 (wrap64 ((l0.length : Int) - 1)) true _ A8.out).mono ?_); rintro e w' ⟨rfl, ⟨nd, rfl⟩⟩; have p364 : 0 ≤ (a1 : Int) := of_decide_eq_true as_; have q364 : a1 < (l0.length : Int) := of_decide_eq_true as_; obtain ⟨ad364, e364, hx364_0⟩ := Kd.at_int HR0.out a1 p364 q364; cases e364; replace hx364_0 := (HB.out.cell (World.block_lt_of_cell? w _ hx364_0)).trans hx364_0; replace p364 := eq_true p364; replace q364 := eq_true q364))
       go_meet
       case rel => exact ⟨_, (((rd l0 a1) != 1)), (fs_), H', ⟨by first | omega | exact Nat.le_refl _⟩, ⟨bl_ HB.out⟩⟩
      ·rw [if_neg c11] at H
       exact absurd H (by simp)
     ·rw [if_neg c10] at H
      exact absurd H (by simp)
    ·replace c9 := Bool.eq_false_iff.mpr c9
     subst c9; have H1 : (impl_CutEar.j0 k l0 a1 (l0.length : Int) true) = some (r1, r2) := by rw [if_neg (show ¬ (false = true) by decide)] at H; exact H
     clear H; have H := H1; clear H1; have H' := Aside0.mk H; clear H
     go_wp2_with (first | ((with_reducible refine gate_callee (f := 30) rfl ?_); refine goesL_ (some 11) rfl rfl Try.func30 (by kernel_rfl) rfl #[.slice A0 l0.length c0] rfl (by (try simp only [List.map_toArray, List.map_cons, List.map_nil]); first | done | rfl | (simp only [List.length_drop, List.length_take]; rfl)) ?_; (with_reducible refine (impl_IsQuiddity.calls k _ _ l0 true _ ?side1 ?side2 A4.out).mono ?_); (case side1 => repeat (first | exact (Kd.C_below HR0.out HB.out) | (with_reducible refine Kd.C_alloc ?_ _) | (with_reducible refine Kd.C_drewN ?_ _) | (with_reducible refine Kd.C_drew ?_))); (case side2 => exact HC0.out); rintro e w13 ⟨rfl, hb⟩; refine ⟨_, rfl, ?_⟩; have n0_ := Aside0.mk (below_step (bl_ HB.out) hb); clear HB; have HB := n0_; clear n0_; (try clear hb); (try clear hb2); (try clear hk); (try clear hi)) | (go_at_call 61; (with_reducible refine (impl_within.calls a1 0 (wrap64 ((l0.length : Int) - 1)) false _ A8.out).mono ?_); rintro e w' ⟨rfl, ⟨nd, rfl⟩⟩))
     go_meet
     case rel => exact ⟨_, (true), (fs_), H', ⟨by first | omega | exact Nat.le_refl _⟩, ⟨bl_ HB.out⟩⟩
  ·replace c5 := Bool.eq_false_iff.mpr c5
   subst c5; have H1 : (impl_CutEar.j0 k l0 a1 (l0.length : Int) true) = some (r1, r2) := by rw [if_neg (show ¬ (false = true) by decide)] at H; exact H
   clear H; have H := H1; clear H1; have H' := Aside0.mk H; clear H
   go_wp2_with (first | ((with_reducible refine gate_callee (f := 30) rfl ?_); refine goesL_ (some 11) rfl rfl Try.func30 (by kernel_rfl) rfl #[.slice A0 l0.length c0] rfl (by (try simp only [List.map_toArray, List.map_cons, List.map_nil]); first | done | rfl | (simp only [List.length_drop, List.length_take]; rfl)) ?_; (with_reducible refine (impl_IsQuiddity.calls k _ _ l0 false _ ?side1 ?side2 A4.out).mono ?_); (case side1 => repeat (first | exact (Kd.C_below HR0.out HB.out) | (with_reducible refine Kd.C_alloc ?_ _) | (with_reducible refine Kd.C_drewN ?_ _) | (with_reducible refine Kd.C_drew ?_))); (case side2 => exact HC0.out); rintro e w14 ⟨rfl, hb⟩; refine ⟨_, rfl, ?_⟩; have n0_ := Aside0.mk (below_step (bl_ HB.out) hb); clear HB; have HB := n0_; clear n0_; (try clear hb); (try clear hb2); (try clear hk); (try clear hi)))
   go_meet
   case rel => exact ⟨_, (true), (fs_), H', ⟨by first | omega | exact Nat.le_refl _⟩, ⟨bl_ HB.out⟩⟩
 case rest =>
  clear HC3
  try clear c1
  try clear p2
  try clear c3
  try clear p3
  try clear q3
  try clear hx3
  try clear c5
  try clear c6
  try clear c6b0
  try clear c6b1
  try clear p6
  try clear c9
  try clear c10
  try clear c10b0
  try clear c11
  try clear c11b0
  try clear hx364_0
  try clear p364
  try clear q364
  obtain ⟨kq, x30_2, rfl, HA, HJ2, HB⟩ := hcut
  cases kq with
  | zero => exact absurd HA.out (by simp [impl_CutEar.j0])
  | succ kj2 =>
   have H := HA.out; clear HA
   simp only [impl_CutEar.j0] at H
   by_cases c15 : x30_2 = true
   ·subst c15
    have H1 : (some (([] : List Int), false)) = some (r1, r2) := by rw [if_pos rfl] at H; exact H
    clear H; have H := H1; clear H1
    simp only [Option.some.injEq, Prod.mk.injEq] at H
    obtain ⟨rfl, rfl⟩ := H
    go_wp2
    go_ret2
    exact ⟨_, by first | rfl | (simp [errW_none, errW_some] <;> rfl) | (simp [*, errW_none, errW_some] <;> rfl), by first | exact Kd.R_nil _ _ _ _ _ | exact Kd.N_nil _ _ _ _ _ | exact Kd.V_nil _ _ _ _ _ | exact Kd.Q_nil _ _ _ _ _ | exact Kd.S_nil _ _ _ _ _, bl_ HB.out⟩
   ·replace c15 := Bool.eq_false_iff.mpr c15
    subst c15; have H1 : ((slices_Clone_int_int.f l0).bind fun t365 => (if (l0.length : Int) = 0 then (none) else (if 0 ≤ (Int.tmod (wrap64 ((wrap64 (a1 + (l0.length : Int))) - 1)) (l0.length : Int)) then (if (Int.tmod (wrap64 ((wrap64 (a1 + (l0.length : Int))) - 1)) (l0.length : Int)) < (t365.length : Int) then ((some (t365.set ((Int.tmod (wrap64 ((wrap64 (a1 + (l0.length : Int))) - 1)) (l0.length : Int)) : Int).toNat (wrap64 ((rd t365 (Int.tmod (wrap64 ((wrap64 (a1 + (l0.length : Int))) - 1)) (l0.length : Int))) - 1)) : List Int)).bind fun y369 => (if 0 ≤ (Int.tmod (wrap64 (a1 + 1)) (l0.length : Int)) then (if (Int.tmod (wrap64 (a1 + 1)) (l0.length : Int)) < (t365.length : Int) then ((slices_Delete_int_int.f (y369.set ((Int.tmod (wrap64 (a1 + 1)) (l0.length : Int)) : Int).toNat (wrap64 ((rd y369 (Int.tmod (wrap64 (a1 + 1)) (l0.length : Int))) - 1))) a1 (wrap64 (a1 + 1))).bind fun t372 => (some (t372, true))) else (none)) else (none))) else (none)) else (none)))) = some (r1, r2) := by rw [if_neg (show ¬ (false = true) by decide)] at H; exact H
    clear H; have H := H1; clear H1; replace H := Option.bind_eq_some_iff.mp H; obtain ⟨t365, A160, H⟩ := H; replace H : (if (l0.length : Int) = 0 then (none) else (if 0 ≤ (Int.tmod (wrap64 ((wrap64 (a1 + (l0.length : Int))) - 1)) (l0.length : Int)) then (if (Int.tmod (wrap64 ((wrap64 (a1 + (l0.length : Int))) - 1)) (l0.length : Int)) < (t365.length : Int) then ((some (t365.set ((Int.tmod (wrap64 ((wrap64 (a1 + (l0.length : Int))) - 1)) (l0.length : Int)) : Int).toNat (wrap64 ((rd t365 (Int.tmod (wrap64 ((wrap64 (a1 + (l0.length : Int))) - 1)) (l0.length : Int))) - 1)) : List Int)).bind fun y369 => (if 0 ≤ (Int.tmod (wrap64 (a1 + 1)) (l0.length : Int)) then (if (Int.tmod (wrap64 (a1 + 1)) (l0.length : Int)) < (t365.length : Int) then ((slices_Delete_int_int.f (y369.set ((Int.tmod (wrap64 (a1 + 1)) (l0.length : Int)) : Int).toNat (wrap64 ((rd y369 (Int.tmod (wrap64 (a1 + 1)) (l0.length : Int))) - 1))) a1 (wrap64 (a1 + 1))).bind fun t372 => (some (t372, true))) else (none)) else (none))) else (none)) else (none))) = some (r1, r2) := H
    have A16 := Aside0.mk A160; clear A160
    by_cases c17 : (l0.length : Int) = 0
    ·rw [if_pos c17] at H
     exact absurd H (by simp)
    ·rw [if_neg c17] at H
     have c17b0 : ((l0.length : Int) == 0) = false := beq_eq_false_iff_ne.mpr c17; have c17b1 : ((l0.length : Int) != 0) = true := bne_iff_ne.mpr c17; have c17b2 : ¬ (l0 = []) := fun h_ => c17 (by rw [h_]; rfl)
     obtain ⟨ji18, hji18⟩ : ∃ j_ : Int, (Int.tmod (wrap64 ((wrap64 (a1 + (l0.length : Int))) - 1)) (l0.length : Int)) = j_ := ⟨_, rfl⟩; replace H : (if 0 ≤ (ji18) then (if (ji18) < (t365.length : Int) then ((some (t365.set ((ji18) : Int).toNat (wrap64 ((rd t365 (ji18)) - 1)) : List Int)).bind fun y369 => (if 0 ≤ (Int.tmod (wrap64 (a1 + 1)) (l0.length : Int)) then (if (Int.tmod (wrap64 (a1 + 1)) (l0.length : Int)) < (t365.length : Int) then ((slices_Delete_int_int.f (y369.set ((Int.tmod (wrap64 (a1 + 1)) (l0.length : Int)) : Int).toNat (wrap64 ((rd y369 (Int.tmod (wrap64 (a1 + 1)) (l0.length : Int))) - 1))) a1 (wrap64 (a1 + 1))).bind fun t372 => (some (t372, true))) else (none)) else (none))) else (none)) else (none)) = some (r1, r2) := by first | (rw [hji18] at H; exact H) | (simp only [hji18] at H ⊢; exact H)
     (try rw [hji18] at A16)
     by_cases c19 : 0 ≤ (ji18)
     ·rw [if_pos c19] at H
      have c19b0 : decide (0 ≤ (ji18)) = true := decide_eq_true c19; clear c19
      by_cases c20 : (ji18) < (t365.length : Int)
      ·rw [if_pos c20] at H
       have c20b0 : decide ((ji18) < (t365.length : Int)) = true := decide_eq_true c20; clear c20; obtain ⟨y369, hy369⟩ : ∃ y_ : List Int, y_ = (t365.set ((ji18) : Int).toNat (wrap64 ((rd t365 (ji18)) - 1))) := ⟨_, rfl⟩; replace H : (if 0 ≤ (Int.tmod (wrap64 (a1 + 1)) (l0.length : Int)) then (if (Int.tmod (wrap64 (a1 + 1)) (l0.length : Int)) < (t365.length : Int) then ((slices_Delete_int_int.f (y369.set ((Int.tmod (wrap64 (a1 + 1)) (l0.length : Int)) : Int).toNat (wrap64 ((rd y369 (Int.tmod (wrap64 (a1 + 1)) (l0.length : Int))) - 1))) a1 (wrap64 (a1 + 1))).bind fun t372 => (some (t372, true))) else (none)) else (none)) = some (r1, r2) := rh_ hy369 H
       have Ny369 := Aside0.mk hy369; clear hy369; obtain ⟨ji22, hji22⟩ : ∃ j_ : Int, (Int.tmod (wrap64 (a1 + 1)) (l0.length : Int)) = j_ := ⟨_, rfl⟩; replace H : (if 0 ≤ (ji22) then (if (ji22) < (t365.length : Int) then ((slices_Delete_int_int.f (y369.set ((ji22) : Int).toNat (wrap64 ((rd y369 (ji22)) - 1))) a1 (wrap64 (a1 + 1))).bind fun t372 => (some (t372, true))) else (none)) else (none)) = some (r1, r2) := by first | (rw [hji22] at H; exact H) | (simp only [hji22] at H ⊢; exact H)
       (try rw [hji22] at A16)
       by_cases c23 : 0 ≤ (ji22)
       ·rw [if_pos c23] at H
        have c23b0 : decide (0 ≤ (ji22)) = true := decide_eq_true c23; clear c23
        by_cases c24 : (ji22) < (t365.length : Int)
        ·rw [if_pos c24] at H
         have c24b0 : decide ((ji22) < (t365.length : Int)) = true := decide_eq_true c24; clear c24; obtain ⟨y371, hy371⟩ : ∃ y_ : List Int, y_ = (y369.set ((ji22) : Int).toNat (wrap64 ((rd y369 (ji22)) - 1))) := ⟨_, rfl⟩; replace H : ((slices_Delete_int_int.f y371 a1 (wrap64 (a1 + 1))).bind fun t372 => (some (t372, true))) = some (r1, r2) := rh_ hy371 H
         have Ny371 := Aside0.mk hy371; clear hy371; replace H := Option.bind_eq_some_iff.mp H; obtain ⟨t372, A260, H⟩ := H; replace H : (some (t372, true)) = some (r1, r2) := H; have A26 := Aside0.mk A260; clear A260
         simp only [Option.some.injEq, Prod.mk.injEq] at H
         obtain ⟨rfl, rfl⟩ := H
         go_wp2_with (first | ((with_reducible refine gate_callee (f := 71) rfl ?_); refine goesL_ (some 32) rfl rfl Try.func71 (by kernel_rfl) rfl #[.slice A0 l0.length c0] rfl (by (try simp only [List.map_toArray, List.map_cons, List.map_nil]); first | done | rfl | (simp only [List.length_drop, List.length_take]; rfl)) ?_; (with_reducible refine (slices_Clone_int_int.calls _ _ l0 t365 _ ?side1 ?side2 A16.out).mono ?_); (case side1 => repeat (first | exact (Kd.C_below HR0.out HB.out) | (with_reducible refine Kd.C_alloc ?_ _) | (with_reducible refine Kd.C_drewN ?_ _) | (with_reducible refine Kd.C_drew ?_))); (case side2 => exact HC0.out); rintro e w27 ⟨v366, rfl, ho0, hb⟩; refine ⟨_, rfl, ?_⟩; have n0_ := Aside0.mk (Kd.R_lower ho0 (below_size (bl_ HB.out))); have n1_ := Aside0.mk (below_step (bl_ HB.out) hb); clear HB; have HO367 := n0_; have HB := n1_; clear n0_ n1_; (try clear hb); (try clear hb2); (try clear hk); (try clear hi); (try clear ho0); obtain ⟨Ao28, co28, eo28⟩ := Kd.R_slice HO367.out; subst eo28; have p368 : 0 ≤ ((ji18) : Int) := of_decide_eq_true as_; have q368 : (ji18) < (t365.length : Int) := of_decide_eq_true as_; obtain ⟨ad368, e368, hx368_0⟩ := Kd.at_int (Kd.R_reads' HO367.out).2.2 (ji18) p368 q368; cases e368; replace p368 := eq_true p368; replace q368 := eq_true q368; have p21 : 0 ≤ ((ji18) : Int) := of_decide_eq_true as_; have q21 : ((ji18) : Int) < ((t365.length : Int) : Int) := of_decide_eq_true as_; obtain ⟨go21, co21, eo21, gb21, gl21, cl21, HG21⟩ := Kd.R_form HO367.out (by omega); (first | cases eo21 | (injection eo21 with ea_ en_ ec_; (first | subst ea_ | (injection ea_ with ea_; subst ea_)); subst ec_; clear en_)); have GB21 := Aside0.mk gb21; have GG21 := Aside0.mk HG21; clear gb21 gl21 HG21; (first | simp only [add_plain] at hx368_0 | skip); obtain ⟨hx21_0, hf21_0⟩ := Kd.R_celln 0 HO367.out ((ji18) : Int) p21 q21; replace p21 := eq_true p21; replace q21 := eq_true q21; obtain ⟨hy29_, hz29_⟩ := Kd.R_celln 0 HO367.out ((ji18) : Int) (of_decide_eq_true as_) (of_decide_eq_true as_); have HP29 := Kd.R_putg HO367.out ((ji18) : Int) (wrap64 ((rd t365 (ji18)) - 1))) | ((with_reducible refine gate_store (t := 3) (p := 43) rfl ?_); refine store_event (t := 3) (p := 43) (v := ?vo_w30) (w1 := (w27.setCell ⟨go21, ((ji18) : Int).toNat, none⟩ (.int .i64 (wrap64 ((rd t365 (ji18)) - 1))))) ?hg ?ho ?hn ?hr ?_; (case ho => rfl); (case hg => rfl); (case hn => rfl); (case hr => first | (go_simp; done) | (go_simp; rfl)); intro w30 hw; have hg : w27.grownBy w30 (some go21) := (by rw [hw]; exact HP29.2); have hp_ : Kd.R (Kd.int .i64) 3 w30 w.heap.size (fun _ => True) (.slice (some ⟨go21, 0, none⟩) t365.length co28) y369 := (by rw [hw, Ny369.out]; exact HP29.1); clear HP29; have n0_ := Aside0.mk (hp_); have n1_ := Aside0.mk ((by rw [hw]; exact below_set (HB.out) GB21.out : Below w.heap.size w w30)); clear HO367; clear HB; have HO367 := n0_; have HB := n1_; clear n0_ n1_; clear hg hw hp_; have p370 : 0 ≤ ((ji22) : Int) := of_decide_eq_true as_; have q370 : (ji22) < (y369.length : Int) := (by have h_ : ((ji22) : Int) < ((t365.length : Int) : Int) := of_decide_eq_true as_; first | (have e_ := (Kd.R_reads' HO367.out).1; omega) | simpa only [Ny369.out, List.length_set] using h_); have ql370 : (((ji22) : Int) < ((t365.length : Int) : Int)) = True := eq_true (of_decide_eq_true as_); obtain ⟨ad370, e370, hx370_0⟩ := Kd.at_int (Kd.R_reads' HO367.out).2.2 (ji22) p370 q370; obtain rfl : (⟨go21, 0, none⟩ : Addr) = ad370 := (by injection e370); (first | simp only [add_plain] at hx370_0 | simp only [add_at] at hx370_0 | simp only [Addr.add, Nat.zero_add] at hx370_0 | skip); replace p370 := eq_true p370; replace q370 := eq_true q370; have p25 : 0 ≤ ((ji22) : Int) := of_decide_eq_true as_; have q25 : ((ji22) : Int) < ((t365.length : Int) : Int) := of_decide_eq_true as_; obtain ⟨hx25_0, hf25_0⟩ := Kd.R_celln 0 HO367.out ((ji22) : Int) p25 q25; replace p25 := eq_true p25; replace q25 := eq_true q25; obtain ⟨hy31_, hz31_⟩ := Kd.R_celln 0 HO367.out ((ji22) : Int) (of_decide_eq_true as_) (of_decide_eq_true as_); have HP31 := Kd.R_putg HO367.out ((ji22) : Int) (wrap64 ((rd y369 (ji22)) - 1))) | ((with_reducible refine gate_store (t := 3) (p := 52) rfl ?_); refine store_event (t := 3) (p := 52) (v := ?vo_w32) (w1 := (w30.setCell ⟨go21, ((ji22) : Int).toNat, none⟩ (.int .i64 (wrap64 ((rd y369 (ji22)) - 1))))) ?hg ?ho ?hn ?hr ?_; (case ho => rfl); (case hg => rfl); (case hn => rfl); (case hr => first | (go_simp; done) | (go_simp; rfl)); intro w32 hw; have hg : w30.grownBy w32 (some go21) := (by rw [hw]; exact HP31.2); have hp_ : Kd.R (Kd.int .i64) 3 w32 w.heap.size (fun _ => True) (.slice (some ⟨go21, 0, none⟩) t365.length co28) y371 := (by rw [hw, Ny371.out]; exact HP31.1); clear HP31; have n0_ := Aside0.mk (hp_); have n1_ := Aside0.mk ((by rw [hw]; exact below_set (HB.out) GB21.out : Below w.heap.size w w32)); clear HO367; clear HB; have HO367 := n0_; have HB := n1_; clear n0_ n1_; clear hg hw hp_) | ((with_reducible refine gate_callee (f := 72) rfl ?_); refine goesL_ (some 57) rfl rfl Try.func72 (by kernel_rfl) rfl #[.slice (some ⟨go21, 0, none⟩) t365.length co28, .int .i64 a1, .int .i64 (wrap64 (a1 + 1))] rfl (by (try simp only [List.map_toArray, List.map_cons, List.map_nil]); first | done | rfl | (simp only [List.length_drop, List.length_take]; rfl)) ?_; (with_reducible refine (slices_Delete_int_int.calls (fun k_ => some k_ = (.slice (some ⟨go21, 0, none⟩) t365.length co28 : Value).ownBlock) (.slice (some ⟨go21, 0, none⟩) t365.length co28) y371 a1 (wrap64 (a1 + 1)) t372 w _ ?side1 ?side2 A26.out).mono ?_); (case side1 => repeat (first | (with_reducible first | exact HB.out | apply below_alloc | apply pw_below_drewN | apply below_drew1) | exact HB.out)); (case side2 => exact Kd.R_tight rfl HO367.out); rintro e w33 ⟨v373, rfl, ho0, hb, hkp⟩; refine ⟨_, rfl, ?_⟩; have n0_ := Aside0.mk (Kd.R_mono (ok' := fun k_ => True) ho0 (fun k_ hk_ => trivial)); have n1_ := Aside0.mk (hb); clear HB; clear HO367; have HO374 := n0_; have HB := n1_; clear n0_ n1_; (try clear hb); (try clear hkp); (try clear ho0)))
         go_ret2
         exact ⟨_, by first | rfl | (simp [errW_none, errW_some] <;> rfl) | (simp only [← hji18, ← hji22]; first | rfl | (simp [errW_none, errW_some] <;> rfl)) | (simp [*, errW_none, errW_some] <;> rfl), by (with_reducible repeat (first | apply Kd.R_alloc | apply Kd.R_drewN | apply Kd.R_drew)); exact HO374.out, bl_ HB.out⟩
        ·rw [if_neg c24] at H
         exact absurd H (by simp)
       ·rw [if_neg c23] at H
        exact absurd H (by simp)
      ·rw [if_neg c20] at H
       exact absurd H (by simp)
     ·rw [if_neg c19] at H
      exact absurd H (by simp)
end Go.Proofs.Ytinnmloliknilaa.PFnExactCutEar
