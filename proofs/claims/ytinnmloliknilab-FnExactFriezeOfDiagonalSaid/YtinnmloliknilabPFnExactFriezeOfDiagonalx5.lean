-- Written for this claim by a program of this session (wip/tools/xprint.py over the kit's printer, wip/tools/shrink.py).
import Derived.Test.YtinnmloliknilabPFnExactFriezeOfDiagonalx0
import Derived.Test.YtinnmloliknilabPFnExactFriezeOfDiagonalx1
import Derived.Test.YtinnmloliknilabPFnExactFriezeOfDiagonalx4
namespace Go.Proofs.Ytinnmloliknilab.PFnExactFriezeOfDiagonal
open Go.RowKit Go.Proofs.YtinnmloliknilabW.PrintWords Go.Proofs.YtinnmloliknilabW.PrintLast Go.Proofs.YtinnmloliknilabW.PrintMore
attribute [local go_sem] max2_int min2_int max_two min_two max_three min_three max_four min_four   -- for this text's walks alone
set_option linter.unusedVariables false
set_option linter.unusedSimpArgs false
mutual
def spec_FriezeOfDiagonal.j0 : Nat → List Int → Int → Bool → Option (List Int × Bool)
 | 0, _, _, _ => none
 | k + 1, x0, x4, x22 => if x22 = true then (some (([] : List Int), false)) else (if 0 ≤ x4 then (if (x4 : Int).toNat ≤ 35184372088832 then ((some (([0] : List Int) : List Int)).bind fun y241 => (if y241.length + x0.length < 17592186044416 then ((some (y241 ++ x0 : List Int)).bind fun y244 => (if y244.length < 17592186044416 then (spec_FriezeOfDiagonal.l0 k x0 x4 (List.replicate (x4 : Int).toNat 0) (y244 ++ [0]) 0 1) else (none))) else (none))) else (none)) else (none))
def spec_FriezeOfDiagonal.l0 : Nat → List Int → Int → List Int → List Int → Int → Int → Option (List Int × Bool)
 | 0, _, _, _, _, _, _ => none
 | k + 1, x0, x4, x5, x6, x7, x8 => if x8 < x4 then (if 0 ≤ (wrap64 (x8 - 1)) then (if (wrap64 (x8 - 1)) < (x6.length : Int) then (if 0 ≤ (wrap64 (x8 + 1)) then (if (wrap64 (x8 + 1)) < (x6.length : Int) then (if 0 ≤ x8 then (if x8 < (x6.length : Int) then (if (rd x6 x8) = 0 then (none) else (if (Int.tmod (wrap64 ((rd x6 (wrap64 (x8 - 1))) + (rd x6 (wrap64 (x8 + 1))))) (rd x6 x8)) = 0 then (if x8 < (x5.length : Int) then ((some (x5.set (x8 : Int).toNat (wrap64 (Int.tdiv (wrap64 ((rd x6 (wrap64 (x8 - 1))) + (rd x6 (wrap64 (x8 + 1))))) (rd x6 x8))) : List Int)).bind fun y254 => (spec_FriezeOfDiagonal.l0 k x0 x4 y254 x6 (wrap64 (x7 + (rd y254 x8))) (wrap64 (x8 + 1)))) else (none)) else (some (([] : List Int), false)))) else (none)) else (none)) else (none)) else (none)) else (none)) else (none)) else (if 0 < (x5.length : Int) then ((some (x5.set (0 : Int).toNat (wrap64 ((wrap64 ((wrap64 (3 * x4)) - 6)) - x7)) : List Int)).bind fun y256 => ((spec_IsQuiddity.f k y256).bind fun t257 => (if t257 = true then (spec_FriezeOfDiagonal.l1 k x0 x4 y256 1) else (some (([] : List Int), false))))) else (none))
def spec_FriezeOfDiagonal.l1 : Nat → List Int → Int → List Int → Int → Option (List Int × Bool)
 | 0, _, _, _, _ => none
 | k + 1, x0, x4, x5, x10 => if x10 < x4 then ((spec_frEntry.f k x5 0 x10).bind fun t258 => (if 0 ≤ (wrap64 (x10 - 1)) then (if (wrap64 (x10 - 1)) < (x0.length : Int) then (if t258 = (rd x0 (wrap64 (x10 - 1))) then (spec_FriezeOfDiagonal.l1 k x0 x4 x5 (wrap64 (x10 + 1))) else (some (([] : List Int), false))) else (none)) else (none))) else (some (x5, true))
end
def spec_FriezeOfDiagonal.f (k : Nat) (l0 : List Int) : Option (List Int × Bool) := (spec_l1In.f (l0.length : Int) 3 11).bind fun t236 => (if t236 = true then ((spec_l1All.f k l0 1 100000).bind fun t237 => (spec_FriezeOfDiagonal.j0 k l0 (wrap64 ((l0.length : Int) + 1)) (!t237))) else (spec_FriezeOfDiagonal.j0 k l0 (wrap64 ((l0.length : Int) + 1)) true))
set_option maxHeartbeats 8000000 in
set_option maxRecDepth 100000 in
theorem spec_FriezeOfDiagonal.calls (k : Nat) (A0 : Option Addr) (c0 : Nat) (l0 : List Int) (r1 : List Int) (r2 : Bool) (w : World) (hr0 : Kd.C (Kd.int .i64) w A0 l0.length l0) (hc0 : l0.length ≤ c0) (h : spec_FriezeOfDiagonal.f k l0 = some (r1, r2)) :
  Calls Try.prog 24 #[.slice A0 l0.length c0] w fun e w' => ∃ v0_ : Value, e = .returned (.tuple #[v0_, .bool r2]) ∧ Kd.R (Kd.int .i64) 3 w' w.heap.size (fun _ => True) v0_ r1 ∧ Below w.heap.size w w' := by
 have HR0 := Aside0.mk hr0; have HC0 := Aside0.mk hc0; clear hr0 hc0; have HB := Aside0.mk (Below.refl w.heap.size w); have H : ((spec_l1In.f (l0.length : Int) 3 11).bind fun t236 => (if t236 = true then ((spec_l1All.f k l0 1 100000).bind fun t237 => (spec_FriezeOfDiagonal.j0 k l0 (wrap64 ((l0.length : Int) + 1)) (!t237))) else (spec_FriezeOfDiagonal.j0 k l0 (wrap64 ((l0.length : Int) + 1)) true))) = some (r1, r2) := h
 clear h; have HC2 := Aside0.mk H; clear H
 go_enter Try.func24, Try.ntmps24
 go_upto_region 2 with (fail)
 repeat (go_quiet (fail); go_upto_region 2 with (fail))
 go_cut [22] (fun v22 wc => ∃ (kq : Nat) (x22_1 : Bool), v22 = .bool x22_1 ∧ Aside0 (spec_FriezeOfDiagonal.j0 kq l0 (wrap64 ((l0.length : Int) + 1)) x22_1 = some (r1, r2)) ∧ Aside0 (kq ≤ k) ∧ Aside0 (Below w.heap.size w wc))
 case first =>
  have H := HC2.out; clear HC2; replace H := Option.bind_eq_some_iff.mp H; obtain ⟨t236, A30, H⟩ := H; replace H : (if t236 = true then ((spec_l1All.f k l0 1 100000).bind fun t237 => (spec_FriezeOfDiagonal.j0 k l0 (wrap64 ((l0.length : Int) + 1)) (!t237))) else (spec_FriezeOfDiagonal.j0 k l0 (wrap64 ((l0.length : Int) + 1)) true)) = some (r1, r2) := H
  have A3 := Aside0.mk A30; clear A30
  by_cases c4 : t236 = true
  ·subst c4
   have H1 : ((spec_l1All.f k l0 1 100000).bind fun t237 => (spec_FriezeOfDiagonal.j0 k l0 (wrap64 ((l0.length : Int) + 1)) (!t237))) = some (r1, r2) := by rw [if_pos rfl] at H; exact H
   clear H; have H := H1; clear H1; replace H := Option.bind_eq_some_iff.mp H; obtain ⟨t237, A50, H⟩ := H; replace H : (spec_FriezeOfDiagonal.j0 k l0 (wrap64 ((l0.length : Int) + 1)) (!t237)) = some (r1, r2) := H; have A5 := Aside0.mk A50; clear A50; have H' := Aside0.mk H; clear H
   go_wp2_with (first | (go_at_call 49; (with_reducible refine (spec_l1In.calls (l0.length : Int) 3 11 true _ A3.out).mono ?_); rintro e w' ⟨rfl, ⟨nd, rfl⟩⟩; (try first | exact ⟨rfl, _, World.drewN_drewN _ _ _⟩ | exact ⟨rfl, _, Eq.trans (World.drewN_drewN _ _ _) (congrArg (World.drewN _) (Nat.add_assoc _ _ _))⟩)) | (go_at_call 50; (with_reducible refine (spec_l1All.calls k _ _ l0 1 100000 t237 _ ?side1 ?side2 A5.out).mono ?_); (case side1 => repeat (first | exact (Kd.C_below HR0.out (bl_ HB.out)) | (with_reducible refine Kd.C_alloc ?_ _) | (with_reducible refine Kd.C_drewN ?_ _) | (with_reducible refine Kd.C_drew ?_))); (case side2 => exact HC0.out); rintro e w' ⟨rfl, ⟨nd, rfl⟩⟩; (try first | exact ⟨rfl, _, World.drewN_drewN _ _ _⟩ | exact ⟨rfl, _, Eq.trans (World.drewN_drewN _ _ _) (congrArg (World.drewN _) (Nat.add_assoc _ _ _))⟩)))
   repeat (go_quiet (first | (go_at_call 49; (with_reducible refine (spec_l1In.calls (l0.length : Int) 3 11 true _ A3.out).mono ?_); rintro e w' ⟨rfl, ⟨nd, rfl⟩⟩; (try first | exact ⟨rfl, _, World.drewN_drewN _ _ _⟩ | exact ⟨rfl, _, Eq.trans (World.drewN_drewN _ _ _) (congrArg (World.drewN _) (Nat.add_assoc _ _ _))⟩)) | (go_at_call 50; (with_reducible refine (spec_l1All.calls k _ _ l0 1 100000 t237 _ ?side1 ?side2 A5.out).mono ?_); (case side1 => repeat (first | exact (Kd.C_below HR0.out (bl_ HB.out)) | (with_reducible refine Kd.C_alloc ?_ _) | (with_reducible refine Kd.C_drewN ?_ _) | (with_reducible refine Kd.C_drew ?_))); (case side2 => exact HC0.out); rintro e w' ⟨rfl, ⟨nd, rfl⟩⟩; (try first | exact ⟨rfl, _, World.drewN_drewN _ _ _⟩ | exact ⟨rfl, _, Eq.trans (World.drewN_drewN _ _ _) (congrArg (World.drewN _) (Nat.add_assoc _ _ _))⟩))); try go_wp2_with (first | (go_at_call 49; (with_reducible refine (spec_l1In.calls (l0.length : Int) 3 11 true _ A3.out).mono ?_); rintro e w' ⟨rfl, ⟨nd, rfl⟩⟩; (try first | exact ⟨rfl, _, World.drewN_drewN _ _ _⟩ | exact ⟨rfl, _, Eq.trans (World.drewN_drewN _ _ _) (congrArg (World.drewN _) (Nat.add_assoc _ _ _))⟩)) | (go_at_call 50; (with_reducible refine (spec_l1All.calls k _ _ l0 1 100000 t237 _ ?side1 ?side2 A5.out).mono ?_); (case side1 => repeat (first | exact (Kd.C_below HR0.out (bl_ HB.out)) | (with_reducible refine Kd.C_alloc ?_ _) | (with_reducible refine Kd.C_drewN ?_ _) | (with_reducible refine Kd.C_drew ?_))); (case side2 => exact HC0.out); rintro e w' ⟨rfl, ⟨nd, rfl⟩⟩; (try first | exact ⟨rfl, _, World.drewN_drewN _ _ _⟩ | exact ⟨rfl, _, Eq.trans (World.drewN_drewN _ _ _) (congrArg (World.drewN _) (Nat.add_assoc _ _ _))⟩))))
   go_meet
   case rel => exact ⟨_, (!t237), (fs_), H', ⟨by first | omega | exact Nat.le_refl _⟩, ⟨bl_ HB.out⟩⟩
  ·replace c4 := Bool.eq_false_iff.mpr c4
   subst c4; have H1 : (spec_FriezeOfDiagonal.j0 k l0 (wrap64 ((l0.length : Int) + 1)) true) = some (r1, r2) := by rw [if_neg (show ¬ (false = true) by decide)] at H; exact H
   clear H; have H := H1; clear H1; have H' := Aside0.mk H; clear H
   go_wp2_with (first | (go_at_call 49; (with_reducible refine (spec_l1In.calls (l0.length : Int) 3 11 false _ A3.out).mono ?_); rintro e w' ⟨rfl, ⟨nd, rfl⟩⟩; (try first | exact ⟨rfl, _, World.drewN_drewN _ _ _⟩ | exact ⟨rfl, _, Eq.trans (World.drewN_drewN _ _ _) (congrArg (World.drewN _) (Nat.add_assoc _ _ _))⟩)))
   repeat (go_quiet (first | (go_at_call 49; (with_reducible refine (spec_l1In.calls (l0.length : Int) 3 11 false _ A3.out).mono ?_); rintro e w' ⟨rfl, ⟨nd, rfl⟩⟩; (try first | exact ⟨rfl, _, World.drewN_drewN _ _ _⟩ | exact ⟨rfl, _, Eq.trans (World.drewN_drewN _ _ _) (congrArg (World.drewN _) (Nat.add_assoc _ _ _))⟩))); try go_wp2_with (first | (go_at_call 49; (with_reducible refine (spec_l1In.calls (l0.length : Int) 3 11 false _ A3.out).mono ?_); rintro e w' ⟨rfl, ⟨nd, rfl⟩⟩; (try first | exact ⟨rfl, _, World.drewN_drewN _ _ _⟩ | exact ⟨rfl, _, Eq.trans (World.drewN_drewN _ _ _) (congrArg (World.drewN _) (Nat.add_assoc _ _ _))⟩))))
   go_meet
   case rel => exact ⟨_, (true), (fs_), H', ⟨by first | omega | exact Nat.le_refl _⟩, ⟨bl_ HB.out⟩⟩
 case rest =>
  clear HC2
  try clear c2
  try clear p2
  try clear c4
  obtain ⟨kq, x22_1, rfl, HA, HJ1, HB⟩ := hcut
  cases kq with
  | zero => exact absurd HA.out (by simp [spec_FriezeOfDiagonal.j0])
  | succ kj1 =>
   have H := HA.out; clear HA
   simp only [spec_FriezeOfDiagonal.j0] at H
   by_cases c6 : x22_1 = true
   ·subst c6
    have H1 : (some (([] : List Int), false)) = some (r1, r2) := by rw [if_pos rfl] at H; exact H
    clear H; have H := H1; clear H1
    simp only [Option.some.injEq, Prod.mk.injEq] at H
    obtain ⟨rfl, rfl⟩ := H
    go_wp2
    repeat (go_quiet (fail); try go_wp2)
    go_ret2
    exact ⟨_, by first | rfl | (simp [errW_none, errW_some] <;> rfl) | (simp [*, errW_none, errW_some] <;> rfl), by first | exact Kd.R_nil _ _ _ _ _ | exact Kd.N_nil _ _ _ _ _ | exact Kd.V_nil _ _ _ _ _ | exact Kd.Q_nil _ _ _ _ _ | exact Kd.S_nil _ _ _ _ _, bl_ HB.out⟩
   ·replace c6 := Bool.eq_false_iff.mpr c6
    subst c6; have H1 : (if 0 ≤ (wrap64 ((l0.length : Int) + 1)) then (if ((wrap64 ((l0.length : Int) + 1)) : Int).toNat ≤ 35184372088832 then ((some (([0] : List Int) : List Int)).bind fun y241 => (if y241.length + l0.length < 17592186044416 then ((some (y241 ++ l0 : List Int)).bind fun y244 => (if y244.length < 17592186044416 then (spec_FriezeOfDiagonal.l0 kj1 l0 (wrap64 ((l0.length : Int) + 1)) (List.replicate ((wrap64 ((l0.length : Int) + 1)) : Int).toNat 0) (y244 ++ [0]) 0 1) else (none))) else (none))) else (none)) else (none)) = some (r1, r2) := by rw [if_neg (show ¬ (false = true) by decide)] at H; exact H
    clear H; have H := H1; clear H1; obtain ⟨ji7, hji7⟩ : ∃ j_ : Int, (wrap64 ((l0.length : Int) + 1)) = j_ := ⟨_, rfl⟩; replace H : (if 0 ≤ (ji7) then (if ((ji7) : Int).toNat ≤ 35184372088832 then ((some (([0] : List Int) : List Int)).bind fun y241 => (if y241.length + l0.length < 17592186044416 then ((some (y241 ++ l0 : List Int)).bind fun y244 => (if y244.length < 17592186044416 then (spec_FriezeOfDiagonal.l0 kj1 l0 (ji7) (List.replicate ((ji7) : Int).toNat 0) (y244 ++ [0]) 0 1) else (none))) else (none))) else (none)) else (none)) = some (r1, r2) := by first | (rw [hji7] at H; exact H) | (simp only [hji7] at H ⊢; exact H)
    have hji7w : (IntKind.i64.wrap ((l0.length : Int) + 1)) = ji7 := (i64_w _).trans hji7
    by_cases c8 : 0 ≤ (ji7)
    ·rw [if_pos c8] at H
     have c8b0 := eq_true c8; have c8b1 : decide (0 ≤ (ji7)) = true := decide_eq_true c8; clear c8
     by_cases c9 : ((ji7) : Int).toNat ≤ 35184372088832
     ·rw [if_pos c9] at H
      have c9b0 := eq_true c9; have c9b1 : decide (((ji7) : Int).toNat ≤ 35184372088832) = true := decide_eq_true c9; clear c9; obtain ⟨y238, hy238⟩ : ∃ y_ : List Int, y_ = (List.replicate ((ji7) : Int).toNat 0) := ⟨_, rfl⟩; replace H : ((some (([0] : List Int) : List Int)).bind fun y241 => (if y241.length + l0.length < 17592186044416 then ((some (y241 ++ l0 : List Int)).bind fun y244 => (if y244.length < 17592186044416 then (spec_FriezeOfDiagonal.l0 kj1 l0 (ji7) y238 (y244 ++ [0]) 0 1) else (none))) else (none))) = some (r1, r2) := rh_ hy238 H
      have Ny238 := Aside0.mk hy238; clear hy238; obtain ⟨y241, hy241⟩ : ∃ y_ : List Int, y_ = (([0] : List Int)) := ⟨_, rfl⟩; replace H : (if y241.length + l0.length < 17592186044416 then ((some (y241 ++ l0 : List Int)).bind fun y244 => (if y244.length < 17592186044416 then (spec_FriezeOfDiagonal.l0 kj1 l0 (ji7) y238 (y244 ++ [0]) 0 1) else (none))) else (none)) = some (r1, r2) := rh_ hy241 H
      have Ny241 := Aside0.mk hy241; clear hy241
      by_cases c10 : y241.length + l0.length < 17592186044416
      ·rw [if_pos c10] at H
       have LMc10 := Aside0.mk c10; clear c10; obtain ⟨y244, hy244⟩ : ∃ y_ : List Int, y_ = (y241 ++ l0) := ⟨_, rfl⟩; replace H : (if y244.length < 17592186044416 then (spec_FriezeOfDiagonal.l0 kj1 l0 (ji7) y238 (y244 ++ [0]) 0 1) else (none)) = some (r1, r2) := rh_ hy244 H
       have Ny244 := Aside0.mk hy244; clear hy244
       by_cases c11 : y244.length < 17592186044416
       ·rw [if_pos c11] at H
        have LMc11 := Aside0.mk c11; clear c11; obtain ⟨y247, hy247⟩ : ∃ y_ : List Int, y_ = (y244 ++ [0]) := ⟨_, rfl⟩; replace H : (spec_FriezeOfDiagonal.l0 kj1 l0 (ji7) y238 y247 0 1) = some (r1, r2) := rh_ hy247 H; have Ny247 := Aside0.mk hy247; clear hy247; have H' := Aside0.mk H; clear H
        (try rw [hji7])
        go_wp2_with (first | ((with_reducible refine gate_dst (N := 24) rfl ?_); refine Kd.R_make (Kd.int .i64) _ 3 rfl (N := 24) rfl 22 _ _ rfl (ji7) rfl rfl Try.underlying22 (.int .i64 0) 8 info3 rfl (by decide) (by omega) 0 (ok := fun _ => True) (okp := fun _ => True) rfl (fun _ hk => hk) trivial (of_decide_eq_true as_) (Nat.le_trans (Nat.mul_le_mul_right _ (of_decide_eq_true as_ : (ji7).toNat ≤ 35184372088832)) (by omega)) (Below.refl _ _) (Nat.le_refl _) ?_; intro v239 w12 ho13 hb hg_ hnew_; clear hg_ hnew_; (first | rw [← Ny238.out] at ho13 | (simp only [Int.reduceToNat] at ho13; rw [← Ny238.out] at ho13)); have n0_ := Aside0.mk (Kd.R_lower ho13 (below_size (bl_ HB.out))); have n1_ := Aside0.mk (below_step (bl_ HB.out) hb); clear HB; have HO240 := n0_; have HB := n1_; clear n0_ n1_; clear hb ho13) | ((with_reducible refine gate_dst (N := 25) rfl ?_); refine Kd.R_lit (Kd.int .i64) _ 3 ?hg (N := 25) ?hd (xs := ([0] : List Int)) (inner := [.int .i64 0]) (ok := fun _ => True) (okp := fun _ => True) ?hr ?hp (fun _ hk => hk) trivial (Below.refl _ _) (Nat.le_refl _) (by simp) ?_; (case hd => rfl); (case hg => rfl); (case hr => first | (go_simp; done) | (go_simp; rfl)); (case hp => exact (Reps.one (show Kd.M (Kd.int .i64) _ _ _ 0 [.int .i64 0] from rfl) (Reps.none _ _))); intro v242 w14 ho15 hb hg_ hnew_; clear hg_ hnew_; (first | rw [← Ny241.out] at ho15 | (simp only [Int.reduceToNat] at ho15; rw [← Ny241.out] at ho15)); have n0_ := Aside0.mk (Kd.R_elder' (kr_ HO240.out) (Kd.R_base ho15) hb); have n1_ := Aside0.mk (Kd.R_lower (Kd.R_new' ho15 (Kd.R_lt (kr_ HO240.out))) (below_size (bl_ HB.out))); have n2_ := Aside0.mk (below_step (bl_ HB.out) hb); clear HO240; clear HB; have HO240 := n0_; have HO243 := n1_; have HB := n2_; clear n0_ n1_ n2_; clear hb ho15) | ((with_reducible refine gate_builtin (b := .append) (xs := #[.tmp 25, .tmp 26]) rfl ?_); at_builtin; refine Kd.R_append_rows (Kd.int .i64) (w0 := w) w.heap.size rfl (.tmp 25) (.tmp 26) 22 3 (.int .i64 0) 8 rfl Try.underlying22 info3 rfl (by decide) (by omega) v242 y241 l0 _ _ _ (fun k_ => some k_ ≠ (v239 : Value).ownBlock) (fun _ => False) rfl rfl ?aO ?aR (fun _ _ h => h) (fun _ h => h.elim) ?aF ?aB ?aS ?aL ?_; (case aR => repeat (first | exact (Kd.C_below HR0.out HB.out) | (with_reducible refine Kd.C_alloc ?_ _) | (with_reducible refine Kd.C_drewN ?_ _) | (with_reducible refine Kd.C_drew ?_))); (case aB => exact (bl_ HB.out)); (case aF => exact (fun k_ hk => Kd.fresh' (Kd.R_lt (kr_ HO240.out)) k_ hk)); (case aO => exact (by (with_reducible repeat (first | apply Kd.R_alloc | apply Kd.R_drewN | apply Kd.R_drew)); exact Kd.R_mono HO243.out (fun _ hk => hk.2))); (case aS => exact (below_size (bl_ HB.out))); (case aL => have := LMc10.out; omega); intro v245 w16 ho hb hg hat; rw [← Ny244.out] at ho; have n0_ := Aside0.mk (Kd.R_after (ok := (fun _ => True)) (kr_ HO240.out) hg hat); have n1_ := Aside0.mk (hb); have n2_ := Aside0.mk (ho); clear HO240; clear HB; clear HO243; have HO240 := n0_; have HB := n1_; have HO246 := n2_; clear n0_ n1_ n2_; clear ho hb hg hat) | ((with_reducible refine gate_builtin (b := .append) (xs := #[.tmp 27, .tmp 28]) rfl ?_); at_builtin; refine Kd.R_append (Kd.int .i64) (w0 := w) w.heap.size rfl (.tmp 27) (.tmp 28) 22 3 (.int .i64 0) 8 rfl Try.underlying22 info3 rfl (by decide) (by omega) v245 y244 0 [.int .i64 0] (fun k_ => some k_ ≠ (v239 : Value).ownBlock) (fun _ => False) rfl rfl ?aP (fun _ hk => hk.elim) ?aF ?aO ?aB ?aS ?aL ?_; (case aP => exact rfl); (case aB => exact (bl_ HB.out)); (case aF => exact (fun k_ hk => Kd.fresh' (Kd.R_lt (kr_ HO240.out)) k_ hk)); (case aO => exact (kr_ HO246.out)); (case aS => exact (below_size (bl_ HB.out))); (case aL => have := LMc11.out; omega); intro v248 w17 ho hb hg hat; rw [← Ny247.out] at ho; have n0_ := Aside0.mk (Kd.R_after (ok := (fun _ => True)) (kr_ HO240.out) hg hat); have n1_ := Aside0.mk (hb); have n2_ := Aside0.mk (ho); clear HO240; clear HB; clear HO246; have HO240 := n0_; have HB := n1_; have HO249 := n2_; clear n0_ n1_ n2_; clear ho hb hg hat))
        repeat (go_quiet (first | ((with_reducible refine gate_dst (N := 24) rfl ?_); refine Kd.R_make (Kd.int .i64) _ 3 rfl (N := 24) rfl 22 _ _ rfl (ji7) rfl rfl Try.underlying22 (.int .i64 0) 8 info3 rfl (by decide) (by omega) 0 (ok := fun _ => True) (okp := fun _ => True) rfl (fun _ hk => hk) trivial (of_decide_eq_true as_) (Nat.le_trans (Nat.mul_le_mul_right _ (of_decide_eq_true as_ : (ji7).toNat ≤ 35184372088832)) (by omega)) (Below.refl _ _) (Nat.le_refl _) ?_; intro v239 w12 ho13 hb hg_ hnew_; clear hg_ hnew_; (first | rw [← Ny238.out] at ho13 | (simp only [Int.reduceToNat] at ho13; rw [← Ny238.out] at ho13)); have n0_ := Aside0.mk (Kd.R_lower ho13 (below_size (bl_ HB.out))); have n1_ := Aside0.mk (below_step (bl_ HB.out) hb); clear HB; have HO240 := n0_; have HB := n1_; clear n0_ n1_; clear hb ho13) | ((with_reducible refine gate_dst (N := 25) rfl ?_); refine Kd.R_lit (Kd.int .i64) _ 3 ?hg (N := 25) ?hd (xs := ([0] : List Int)) (inner := [.int .i64 0]) (ok := fun _ => True) (okp := fun _ => True) ?hr ?hp (fun _ hk => hk) trivial (Below.refl _ _) (Nat.le_refl _) (by simp) ?_; (case hd => rfl); (case hg => rfl); (case hr => first | (go_simp; done) | (go_simp; rfl)); (case hp => exact (Reps.one (show Kd.M (Kd.int .i64) _ _ _ 0 [.int .i64 0] from rfl) (Reps.none _ _))); intro v242 w14 ho15 hb hg_ hnew_; clear hg_ hnew_; (first | rw [← Ny241.out] at ho15 | (simp only [Int.reduceToNat] at ho15; rw [← Ny241.out] at ho15)); have n0_ := Aside0.mk (Kd.R_elder' (kr_ HO240.out) (Kd.R_base ho15) hb); have n1_ := Aside0.mk (Kd.R_lower (Kd.R_new' ho15 (Kd.R_lt (kr_ HO240.out))) (below_size (bl_ HB.out))); have n2_ := Aside0.mk (below_step (bl_ HB.out) hb); clear HO240; clear HB; have HO240 := n0_; have HO243 := n1_; have HB := n2_; clear n0_ n1_ n2_; clear hb ho15) | ((with_reducible refine gate_builtin (b := .append) (xs := #[.tmp 25, .tmp 26]) rfl ?_); at_builtin; refine Kd.R_append_rows (Kd.int .i64) (w0 := w) w.heap.size rfl (.tmp 25) (.tmp 26) 22 3 (.int .i64 0) 8 rfl Try.underlying22 info3 rfl (by decide) (by omega) v242 y241 l0 _ _ _ (fun k_ => some k_ ≠ (v239 : Value).ownBlock) (fun _ => False) rfl rfl ?aO ?aR (fun _ _ h => h) (fun _ h => h.elim) ?aF ?aB ?aS ?aL ?_; (case aR => repeat (first | exact (Kd.C_below HR0.out HB.out) | (with_reducible refine Kd.C_alloc ?_ _) | (with_reducible refine Kd.C_drewN ?_ _) | (with_reducible refine Kd.C_drew ?_))); (case aB => exact (bl_ HB.out)); (case aF => exact (fun k_ hk => Kd.fresh' (Kd.R_lt (kr_ HO240.out)) k_ hk)); (case aO => exact (by (with_reducible repeat (first | apply Kd.R_alloc | apply Kd.R_drewN | apply Kd.R_drew)); exact Kd.R_mono HO243.out (fun _ hk => hk.2))); (case aS => exact (below_size (bl_ HB.out))); (case aL => have := LMc10.out; omega); intro v245 w16 ho hb hg hat; rw [← Ny244.out] at ho; have n0_ := Aside0.mk (Kd.R_after (ok := (fun _ => True)) (kr_ HO240.out) hg hat); have n1_ := Aside0.mk (hb); have n2_ := Aside0.mk (ho); clear HO240; clear HB; clear HO243; have HO240 := n0_; have HB := n1_; have HO246 := n2_; clear n0_ n1_ n2_; clear ho hb hg hat) | ((with_reducible refine gate_builtin (b := .append) (xs := #[.tmp 27, .tmp 28]) rfl ?_); at_builtin; refine Kd.R_append (Kd.int .i64) (w0 := w) w.heap.size rfl (.tmp 27) (.tmp 28) 22 3 (.int .i64 0) 8 rfl Try.underlying22 info3 rfl (by decide) (by omega) v245 y244 0 [.int .i64 0] (fun k_ => some k_ ≠ (v239 : Value).ownBlock) (fun _ => False) rfl rfl ?aP (fun _ hk => hk.elim) ?aF ?aO ?aB ?aS ?aL ?_; (case aP => exact rfl); (case aB => exact (bl_ HB.out)); (case aF => exact (fun k_ hk => Kd.fresh' (Kd.R_lt (kr_ HO240.out)) k_ hk)); (case aO => exact (kr_ HO246.out)); (case aS => exact (below_size (bl_ HB.out))); (case aL => have := LMc11.out; omega); intro v248 w17 ho hb hg hat; rw [← Ny247.out] at ho; have n0_ := Aside0.mk (Kd.R_after (ok := (fun _ => True)) (kr_ HO240.out) hg hat); have n1_ := Aside0.mk (hb); have n2_ := Aside0.mk (ho); clear HO240; clear HB; clear HO246; have HO240 := n0_; have HB := n1_; have HO249 := n2_; clear n0_ n1_ n2_; clear ho hb hg hat)); try go_wp2_with (first | ((with_reducible refine gate_dst (N := 24) rfl ?_); refine Kd.R_make (Kd.int .i64) _ 3 rfl (N := 24) rfl 22 _ _ rfl (ji7) rfl rfl Try.underlying22 (.int .i64 0) 8 info3 rfl (by decide) (by omega) 0 (ok := fun _ => True) (okp := fun _ => True) rfl (fun _ hk => hk) trivial (of_decide_eq_true as_) (Nat.le_trans (Nat.mul_le_mul_right _ (of_decide_eq_true as_ : (ji7).toNat ≤ 35184372088832)) (by omega)) (Below.refl _ _) (Nat.le_refl _) ?_; intro v239 w12 ho13 hb hg_ hnew_; clear hg_ hnew_; (first | rw [← Ny238.out] at ho13 | (simp only [Int.reduceToNat] at ho13; rw [← Ny238.out] at ho13)); have n0_ := Aside0.mk (Kd.R_lower ho13 (below_size (bl_ HB.out))); have n1_ := Aside0.mk (below_step (bl_ HB.out) hb); clear HB; have HO240 := n0_; have HB := n1_; clear n0_ n1_; clear hb ho13) | ((with_reducible refine gate_dst (N := 25) rfl ?_); refine Kd.R_lit (Kd.int .i64) _ 3 ?hg (N := 25) ?hd (xs := ([0] : List Int)) (inner := [.int .i64 0]) (ok := fun _ => True) (okp := fun _ => True) ?hr ?hp (fun _ hk => hk) trivial (Below.refl _ _) (Nat.le_refl _) (by simp) ?_; (case hd => rfl); (case hg => rfl); (case hr => first | (go_simp; done) | (go_simp; rfl)); (case hp => exact (Reps.one (show Kd.M (Kd.int .i64) _ _ _ 0 [.int .i64 0] from rfl) (Reps.none _ _))); intro v242 w14 ho15 hb hg_ hnew_; clear hg_ hnew_; (first | rw [← Ny241.out] at ho15 | (simp only [Int.reduceToNat] at ho15; rw [← Ny241.out] at ho15)); have n0_ := Aside0.mk (Kd.R_elder' (kr_ HO240.out) (Kd.R_base ho15) hb); have n1_ := Aside0.mk (Kd.R_lower (Kd.R_new' ho15 (Kd.R_lt (kr_ HO240.out))) (below_size (bl_ HB.out))); have n2_ := Aside0.mk (below_step (bl_ HB.out) hb); clear HO240; clear HB; have HO240 := n0_; have HO243 := n1_; have HB := n2_; clear n0_ n1_ n2_; clear hb ho15) | ((with_reducible refine gate_builtin (b := .append) (xs := #[.tmp 25, .tmp 26]) rfl ?_); at_builtin; refine Kd.R_append_rows (Kd.int .i64) (w0 := w) w.heap.size rfl (.tmp 25) (.tmp 26) 22 3 (.int .i64 0) 8 rfl Try.underlying22 info3 rfl (by decide) (by omega) v242 y241 l0 _ _ _ (fun k_ => some k_ ≠ (v239 : Value).ownBlock) (fun _ => False) rfl rfl ?aO ?aR (fun _ _ h => h) (fun _ h => h.elim) ?aF ?aB ?aS ?aL ?_; (case aR => repeat (first | exact (Kd.C_below HR0.out HB.out) | (with_reducible refine Kd.C_alloc ?_ _) | (with_reducible refine Kd.C_drewN ?_ _) | (with_reducible refine Kd.C_drew ?_))); (case aB => exact (bl_ HB.out)); (case aF => exact (fun k_ hk => Kd.fresh' (Kd.R_lt (kr_ HO240.out)) k_ hk)); (case aO => exact (by (with_reducible repeat (first | apply Kd.R_alloc | apply Kd.R_drewN | apply Kd.R_drew)); exact Kd.R_mono HO243.out (fun _ hk => hk.2))); (case aS => exact (below_size (bl_ HB.out))); (case aL => have := LMc10.out; omega); intro v245 w16 ho hb hg hat; rw [← Ny244.out] at ho; have n0_ := Aside0.mk (Kd.R_after (ok := (fun _ => True)) (kr_ HO240.out) hg hat); have n1_ := Aside0.mk (hb); have n2_ := Aside0.mk (ho); clear HO240; clear HB; clear HO243; have HO240 := n0_; have HB := n1_; have HO246 := n2_; clear n0_ n1_ n2_; clear ho hb hg hat) | ((with_reducible refine gate_builtin (b := .append) (xs := #[.tmp 27, .tmp 28]) rfl ?_); at_builtin; refine Kd.R_append (Kd.int .i64) (w0 := w) w.heap.size rfl (.tmp 27) (.tmp 28) 22 3 (.int .i64 0) 8 rfl Try.underlying22 info3 rfl (by decide) (by omega) v245 y244 0 [.int .i64 0] (fun k_ => some k_ ≠ (v239 : Value).ownBlock) (fun _ => False) rfl rfl ?aP (fun _ hk => hk.elim) ?aF ?aO ?aB ?aS ?aL ?_; (case aP => exact rfl); (case aB => exact (bl_ HB.out)); (case aF => exact (fun k_ hk => Kd.fresh' (Kd.R_lt (kr_ HO240.out)) k_ hk)); (case aO => exact (kr_ HO246.out)); (case aS => exact (below_size (bl_ HB.out))); (case aL => have := LMc11.out; omega); intro v248 w17 ho hb hg hat; rw [← Ny247.out] at ho; have n0_ := Aside0.mk (Kd.R_after (ok := (fun _ => True)) (kr_ HO240.out) hg hat); have n1_ := Aside0.mk (hb); have n2_ := Aside0.mk (ho); clear HO240; clear HB; clear HO246; have HO240 := n0_; have HB := n1_; have HO249 := n2_; clear n0_ n1_ n2_; clear ho hb hg hat)))
        go_loopg [7, 8] kj1 (fun kq v7 v8 w' => ∃ (x5_2 : List Int) (x7_2 : Int) (x8_2 : Int), v7 = .int .i64 x7_2 ∧ v8 = .int .i64 x8_2 ∧ Aside0 (spec_FriezeOfDiagonal.l0 kq l0 (ji7) x5_2 y247 x7_2 x8_2 = some (r1, r2)) ∧ Aside0 (kq ≤ kj1) ∧ Aside0 (Kd.R (Kd.int .i64) 3 w' w.heap.size (fun k_ => some k_ ≠ (v248 : Value).ownBlock) v239 x5_2) ∧ Aside0 (Kd.R (Kd.int .i64) 3 w' w.heap.size (fun k_ => some k_ ≠ (v239 : Value).ownBlock) v248 y247) ∧ Aside0 (Below w.heap.size w w'))
        case atStart => exact ⟨(y238), (0), (1), (fs_), (fs_), H', ⟨Nat.le_refl _⟩, ⟨by (with_reducible repeat (first | apply Kd.R_alloc | apply Kd.R_drewN | apply Kd.R_drew)); exact Kd.R_mono HO240.out (fun _ hk => hk.2)⟩, ⟨kr_ HO249.out⟩, ⟨bl_ HB.out⟩⟩
        case round =>
         clear H'
         try clear c1
         try clear c2
         try clear p2
         try clear c4
         try clear c6
         try clear p6
         try clear c8
         try clear c8b0
         try clear c8b1
         try clear c9
         try clear c9b0
         try clear c9b1
         try clear c10
         try clear c11
         try clear p2
         obtain ⟨x5_2, x7_2, x8_2, rfl, rfl, HA, HK2, HO_5, HO_6, HB⟩ := hrel
         cases gk with
         | zero => exact absurd HA.out (by simp [spec_FriezeOfDiagonal.l0])
         | succ k2 =>
          have H := HA.out; clear HA
          simp only [spec_FriezeOfDiagonal.l0] at H
          by_cases c18 : x8_2 < (ji7)
          ·rw [if_pos c18] at H
           have c18b0 : decide (x8_2 < (ji7)) = true := decide_eq_true c18; clear c18; obtain ⟨ji19, hji19⟩ : ∃ j_ : Int, (wrap64 (x8_2 - 1)) = j_ := ⟨_, rfl⟩; replace H : (if 0 ≤ (ji19) then (if (ji19) < (y247.length : Int) then (if 0 ≤ (wrap64 (x8_2 + 1)) then (if (wrap64 (x8_2 + 1)) < (y247.length : Int) then (if 0 ≤ x8_2 then (if x8_2 < (y247.length : Int) then (if (rd y247 x8_2) = 0 then (none) else (if (Int.tmod (wrap64 ((rd y247 (ji19)) + (rd y247 (wrap64 (x8_2 + 1))))) (rd y247 x8_2)) = 0 then (if x8_2 < (x5_2.length : Int) then ((some (x5_2.set (x8_2 : Int).toNat (wrap64 (Int.tdiv (wrap64 ((rd y247 (ji19)) + (rd y247 (wrap64 (x8_2 + 1))))) (rd y247 x8_2))) : List Int)).bind fun y254 => (spec_FriezeOfDiagonal.l0 k2 l0 (ji7) y254 y247 (wrap64 (x7_2 + (rd y254 x8_2))) (wrap64 (x8_2 + 1)))) else (none)) else (some (([] : List Int), false)))) else (none)) else (none)) else (none)) else (none)) else (none)) else (none)) = some (r1, r2) := by first | (rw [hji19] at H; exact H) | (simp only [hji19] at H ⊢; exact H)
           have hji19w : (IntKind.i64.wrap (x8_2 - 1)) = ji19 := (i64_w _).trans hji19
           by_cases c20 : 0 ≤ (ji19)
           ·rw [if_pos c20] at H
            have c20b0 : decide (0 ≤ (ji19)) = true := decide_eq_true c20; clear c20
            by_cases c21 : (ji19) < (y247.length : Int)
            ·rw [if_pos c21] at H
             have c21b0 : decide ((ji19) < (y247.length : Int)) = true := decide_eq_true c21; clear c21; obtain ⟨ji22, hji22⟩ : ∃ j_ : Int, (wrap64 (x8_2 + 1)) = j_ := ⟨_, rfl⟩; replace H : (if 0 ≤ (ji22) then (if (ji22) < (y247.length : Int) then (if 0 ≤ x8_2 then (if x8_2 < (y247.length : Int) then (if (rd y247 x8_2) = 0 then (none) else (if (Int.tmod (wrap64 ((rd y247 (ji19)) + (rd y247 (ji22)))) (rd y247 x8_2)) = 0 then (if x8_2 < (x5_2.length : Int) then ((some (x5_2.set (x8_2 : Int).toNat (wrap64 (Int.tdiv (wrap64 ((rd y247 (ji19)) + (rd y247 (ji22)))) (rd y247 x8_2))) : List Int)).bind fun y254 => (spec_FriezeOfDiagonal.l0 k2 l0 (ji7) y254 y247 (wrap64 (x7_2 + (rd y254 x8_2))) ji22)) else (none)) else (some (([] : List Int), false)))) else (none)) else (none)) else (none)) else (none)) = some (r1, r2) := by first | (rw [hji22] at H; exact H) | (simp only [hji22] at H ⊢; exact H)
             have hji22w : (IntKind.i64.wrap (x8_2 + 1)) = ji22 := (i64_w _).trans hji22
             by_cases c23 : 0 ≤ (ji22)
             ·rw [if_pos c23] at H
              have c23b0 : decide (0 ≤ (ji22)) = true := decide_eq_true c23; clear c23
              by_cases c24 : (ji22) < (y247.length : Int)
              ·rw [if_pos c24] at H
               have c24b0 : decide ((ji22) < (y247.length : Int)) = true := decide_eq_true c24; clear c24
               by_cases c25 : 0 ≤ x8_2
               ·rw [if_pos c25] at H
                have c25b0 : decide (0 ≤ x8_2) = true := decide_eq_true c25; clear c25
                by_cases c26 : x8_2 < (y247.length : Int)
                ·rw [if_pos c26] at H
                 have c26b0 : decide (x8_2 < (y247.length : Int)) = true := decide_eq_true c26; clear c26
                 by_cases c27 : (rd y247 x8_2) = 0
                 ·rw [if_pos c27] at H
                  exact absurd H (by simp)
                 ·rw [if_neg c27] at H
                  have c27b0 : ((rd y247 x8_2) == 0) = false := beq_eq_false_iff_ne.mpr c27; have c27b1 : ((rd y247 x8_2) != 0) = true := bne_iff_ne.mpr c27
                  by_cases c28 : (Int.tmod (wrap64 ((rd y247 (ji19)) + (rd y247 (ji22)))) (rd y247 x8_2)) = 0
                  ·rw [if_pos c28] at H
                   have c28b0 : ((Int.tmod (wrap64 ((rd y247 (ji19)) + (rd y247 (ji22)))) (rd y247 x8_2)) == 0) = true := beq_iff_eq.mpr c28; have c28b1 : ((Int.tmod (wrap64 ((rd y247 (ji19)) + (rd y247 (ji22)))) (rd y247 x8_2)) != 0) = false := bne_eq_false_iff_eq.mpr c28; clear c28
                   by_cases c29 : x8_2 < (x5_2.length : Int)
                   ·rw [if_pos c29] at H
                    have c29b0 : decide (x8_2 < (x5_2.length : Int)) = true := decide_eq_true c29; clear c29; obtain ⟨y254, hy254⟩ : ∃ y_ : List Int, y_ = (x5_2.set (x8_2 : Int).toNat (wrap64 (Int.tdiv (wrap64 ((rd y247 (ji19)) + (rd y247 (ji22)))) (rd y247 x8_2)))) := ⟨_, rfl⟩; replace H : (spec_FriezeOfDiagonal.l0 k2 l0 (ji7) y254 y247 (wrap64 (x7_2 + (rd y254 x8_2))) ji22) = some (r1, r2) := rh_ hy254 H; have Ny254 := Aside0.mk hy254; clear hy254; have H' := Aside0.mk H; clear H; obtain ⟨Ao31, co31, eo31⟩ := Kd.R_slice HO_6.out; subst eo31; have p250 : 0 ≤ ((ji19) : Int) := of_decide_eq_true as_; have q250 : (ji19) < (y247.length : Int) := of_decide_eq_true as_; obtain ⟨ad250, e250, hx250_0⟩ := Kd.at_int (Kd.R_reads' HO_6.out).2.2 (ji19) p250 q250
                    cases e250
                    replace p250 := eq_true p250; replace q250 := eq_true q250; have p251 : 0 ≤ ((ji22) : Int) := of_decide_eq_true as_; have q251 : (ji22) < (y247.length : Int) := of_decide_eq_true as_; obtain ⟨ad251, e251, hx251_0⟩ := Kd.at_int (Kd.R_reads' HO_6.out).2.2 (ji22) p251 q251; obtain rfl : ad250 = ad251 := (by injection e251)
                    replace p251 := eq_true p251; replace q251 := eq_true q251; have p252 : 0 ≤ (x8_2 : Int) := of_decide_eq_true as_; have q252 : x8_2 < (y247.length : Int) := of_decide_eq_true as_; obtain ⟨ad252, e252, hx252_0⟩ := Kd.at_int (Kd.R_reads' HO_6.out).2.2 x8_2 p252 q252; obtain rfl : ad250 = ad252 := (by injection e252)
                    replace p252 := eq_true p252; replace q252 := eq_true q252; have p253 : 0 ≤ (x8_2 : Int) := of_decide_eq_true as_; have q253 : x8_2 < (y247.length : Int) := of_decide_eq_true as_; obtain ⟨ad253, e253, hx253_0⟩ := Kd.at_int (Kd.R_reads' HO_6.out).2.2 x8_2 p253 q253; obtain rfl : ad250 = ad253 := (by injection e253)
                    replace p253 := eq_true p253; replace q253 := eq_true q253; have p30 : 0 ≤ (x8_2 : Int) := of_decide_eq_true as_; have q30 : (x8_2 : Int) < ((x5_2.length : Int) : Int) := of_decide_eq_true as_; obtain ⟨go30, co30, eo30, gb30, gl30, cl30, HG30⟩ := Kd.R_form HO_5.out (by omega)
                    (first | cases eo30 | (injection eo30 with ea_ en_ ec_; (first | subst ea_ | (injection ea_ with ea_; subst ea_)); subst ec_; clear en_))
                    have GB30 := Aside0.mk gb30; have GG30 := Aside0.mk HG30; clear gb30 gl30 HG30; obtain ⟨hx30_0, hf30_0⟩ := Kd.R_celln 0 HO_5.out (x8_2 : Int) p30 q30; replace p30 := eq_true p30; replace q30 := eq_true q30; have HP32 := Kd.R_putg HO_5.out (x8_2 : Int) (wrap64 (Int.tdiv (wrap64 ((rd y247 (ji19)) + (rd y247 (ji22)))) (rd y247 x8_2)))
                    (try rw [hji7])
                    (try rw [hji19])
                    (try rw [hji22])
                    go_wp2_with (first | ((with_reducible refine gate_store (t := 3) (p := 61) rfl ?_); (try (rw [drewN_self wr]; generalize hq_ : World.drewN wr _ = wr; have n0_ := Aside0.mk (Kd.R_at hq_ HO_5.out); have n1_ := Aside0.mk (Kd.R_at hq_ HO_6.out); have n2_ := Aside0.mk (below_at hq_ HB.out); clear hq_ HO_5 HO_6 HB; have HO_5 := n0_; have HO_6 := n1_; have HB := n2_; clear n0_ n1_ n2_; (try (have HP32 := Kd.R_putg HO_5.out (x8_2 : Int) (wrap64 (Int.tdiv (wrap64 ((rd y247 (ji19)) + (rd y247 (ji22)))) (rd y247 x8_2))))))); refine store_event (t := 3) (p := 61) (v := ?vo_w33) (w1 := (wr.setCell ⟨go30, (x8_2 : Int).toNat, none⟩ (.int .i64 (wrap64 (Int.tdiv (wrap64 ((rd y247 (ji19)) + (rd y247 (ji22)))) (rd y247 x8_2)))))) ?hg ?ho ?hn ?hr ?_; (case ho => rfl); (case hg => rfl); (case hn => rfl); (case hr => first | (go_simp; done) | (go_simp; rfl)); intro w33 hw; have hg : wr.grownBy w33 (some go30) := (by rw [hw]; exact HP32.2); have hp_ : Kd.R (Kd.int .i64) 3 w33 w.heap.size (fun k_ => some k_ ≠ (.slice (some ad250) y247.length co31 : Value).ownBlock) (.slice (some ⟨go30, 0, none⟩) x5_2.length co30) y254 := (by rw [hw, Ny254.out]; exact HP32.1); clear HP32; have n0_ := Aside0.mk (hp_); have n1_ := Aside0.mk (Kd.R_after (v := (.slice (some ⟨go30, 0, none⟩) x5_2.length co30)) (v1 := (.slice (some ⟨go30, 0, none⟩) x5_2.length co30)) (ok := (fun _ => True)) (by (with_reducible repeat (first | apply Kd.R_alloc | apply Kd.R_drewN | apply Kd.R_drew)); exact Kd.R_mono HO_6.out (fun _ hk => ⟨trivial, hk⟩)) hg (.inl rfl)); have n2_ := Aside0.mk ((by rw [hw]; exact below_set (HB.out) GB30.out : Below w.heap.size w w33)); clear HO_5; clear HO_6; clear HB; have HO_5 := n0_; have HO_6 := n1_; have HB := n2_; clear n0_ n1_ n2_; clear hg hw hp_; have p255 : 0 ≤ (x8_2 : Int) := of_decide_eq_true as_; have q255 : x8_2 < (y254.length : Int) := (by have h_ : (x8_2 : Int) < ((x5_2.length : Int) : Int) := of_decide_eq_true as_; first | (have e_ := (Kd.R_reads' HO_5.out).1; omega) | simpa only [Ny254.out, List.length_set] using h_); have ql255 : ((x8_2 : Int) < ((x5_2.length : Int) : Int)) = True := eq_true (of_decide_eq_true as_); obtain ⟨ad255, e255, hx255_0⟩ := Kd.at_int (Kd.R_reads' HO_5.out).2.2 x8_2 p255 q255; obtain rfl : (⟨go30, 0, none⟩ : Addr) = ad255 := (by injection e255); (first | simp only [add_plain] at hx255_0 | simp only [add_at] at hx255_0 | simp only [Addr.add, Nat.zero_add] at hx255_0 | skip); replace p255 := eq_true p255; replace q255 := eq_true q255))
                    repeat (go_quiet (first | ((with_reducible refine gate_store (t := 3) (p := 61) rfl ?_); (try (rw [drewN_self wr]; generalize hq_ : World.drewN wr _ = wr; have n0_ := Aside0.mk (Kd.R_at hq_ HO_5.out); have n1_ := Aside0.mk (Kd.R_at hq_ HO_6.out); have n2_ := Aside0.mk (below_at hq_ HB.out); clear hq_ HO_5 HO_6 HB; have HO_5 := n0_; have HO_6 := n1_; have HB := n2_; clear n0_ n1_ n2_; (try (have HP32 := Kd.R_putg HO_5.out (x8_2 : Int) (wrap64 (Int.tdiv (wrap64 ((rd y247 (ji19)) + (rd y247 (ji22)))) (rd y247 x8_2))))))); refine store_event (t := 3) (p := 61) (v := ?vo_w33) (w1 := (wr.setCell ⟨go30, (x8_2 : Int).toNat, none⟩ (.int .i64 (wrap64 (Int.tdiv (wrap64 ((rd y247 (ji19)) + (rd y247 (ji22)))) (rd y247 x8_2)))))) ?hg ?ho ?hn ?hr ?_; (case ho => rfl); (case hg => rfl); (case hn => rfl); (case hr => first | (go_simp; done) | (go_simp; rfl)); intro w33 hw; have hg : wr.grownBy w33 (some go30) := (by rw [hw]; exact HP32.2); have hp_ : Kd.R (Kd.int .i64) 3 w33 w.heap.size (fun k_ => some k_ ≠ (.slice (some ad250) y247.length co31 : Value).ownBlock) (.slice (some ⟨go30, 0, none⟩) x5_2.length co30) y254 := (by rw [hw, Ny254.out]; exact HP32.1); clear HP32; have n0_ := Aside0.mk (hp_); have n1_ := Aside0.mk (Kd.R_after (v := (.slice (some ⟨go30, 0, none⟩) x5_2.length co30)) (v1 := (.slice (some ⟨go30, 0, none⟩) x5_2.length co30)) (ok := (fun _ => True)) (by (with_reducible repeat (first | apply Kd.R_alloc | apply Kd.R_drewN | apply Kd.R_drew)); exact Kd.R_mono HO_6.out (fun _ hk => ⟨trivial, hk⟩)) hg (.inl rfl)); have n2_ := Aside0.mk ((by rw [hw]; exact below_set (HB.out) GB30.out : Below w.heap.size w w33)); clear HO_5; clear HO_6; clear HB; have HO_5 := n0_; have HO_6 := n1_; have HB := n2_; clear n0_ n1_ n2_; clear hg hw hp_; have p255 : 0 ≤ (x8_2 : Int) := of_decide_eq_true as_; have q255 : x8_2 < (y254.length : Int) := (by have h_ : (x8_2 : Int) < ((x5_2.length : Int) : Int) := of_decide_eq_true as_; first | (have e_ := (Kd.R_reads' HO_5.out).1; omega) | simpa only [Ny254.out, List.length_set] using h_); have ql255 : ((x8_2 : Int) < ((x5_2.length : Int) : Int)) = True := eq_true (of_decide_eq_true as_); obtain ⟨ad255, e255, hx255_0⟩ := Kd.at_int (Kd.R_reads' HO_5.out).2.2 x8_2 p255 q255; obtain rfl : (⟨go30, 0, none⟩ : Addr) = ad255 := (by injection e255); (first | simp only [add_plain] at hx255_0 | simp only [add_at] at hx255_0 | simp only [Addr.add, Nat.zero_add] at hx255_0 | skip); replace p255 := eq_true p255; replace q255 := eq_true q255)); try go_wp2_with (first | ((with_reducible refine gate_store (t := 3) (p := 61) rfl ?_); (try (rw [drewN_self wr]; generalize hq_ : World.drewN wr _ = wr; have n0_ := Aside0.mk (Kd.R_at hq_ HO_5.out); have n1_ := Aside0.mk (Kd.R_at hq_ HO_6.out); have n2_ := Aside0.mk (below_at hq_ HB.out); clear hq_ HO_5 HO_6 HB; have HO_5 := n0_; have HO_6 := n1_; have HB := n2_; clear n0_ n1_ n2_; (try (have HP32 := Kd.R_putg HO_5.out (x8_2 : Int) (wrap64 (Int.tdiv (wrap64 ((rd y247 (ji19)) + (rd y247 (ji22)))) (rd y247 x8_2))))))); refine store_event (t := 3) (p := 61) (v := ?vo_w33) (w1 := (wr.setCell ⟨go30, (x8_2 : Int).toNat, none⟩ (.int .i64 (wrap64 (Int.tdiv (wrap64 ((rd y247 (ji19)) + (rd y247 (ji22)))) (rd y247 x8_2)))))) ?hg ?ho ?hn ?hr ?_; (case ho => rfl); (case hg => rfl); (case hn => rfl); (case hr => first | (go_simp; done) | (go_simp; rfl)); intro w33 hw; have hg : wr.grownBy w33 (some go30) := (by rw [hw]; exact HP32.2); have hp_ : Kd.R (Kd.int .i64) 3 w33 w.heap.size (fun k_ => some k_ ≠ (.slice (some ad250) y247.length co31 : Value).ownBlock) (.slice (some ⟨go30, 0, none⟩) x5_2.length co30) y254 := (by rw [hw, Ny254.out]; exact HP32.1); clear HP32; have n0_ := Aside0.mk (hp_); have n1_ := Aside0.mk (Kd.R_after (v := (.slice (some ⟨go30, 0, none⟩) x5_2.length co30)) (v1 := (.slice (some ⟨go30, 0, none⟩) x5_2.length co30)) (ok := (fun _ => True)) (by (with_reducible repeat (first | apply Kd.R_alloc | apply Kd.R_drewN | apply Kd.R_drew)); exact Kd.R_mono HO_6.out (fun _ hk => ⟨trivial, hk⟩)) hg (.inl rfl)); have n2_ := Aside0.mk ((by rw [hw]; exact below_set (HB.out) GB30.out : Below w.heap.size w w33)); clear HO_5; clear HO_6; clear HB; have HO_5 := n0_; have HO_6 := n1_; have HB := n2_; clear n0_ n1_ n2_; clear hg hw hp_; have p255 : 0 ≤ (x8_2 : Int) := of_decide_eq_true as_; have q255 : x8_2 < (y254.length : Int) := (by have h_ : (x8_2 : Int) < ((x5_2.length : Int) : Int) := of_decide_eq_true as_; first | (have e_ := (Kd.R_reads' HO_5.out).1; omega) | simpa only [Ny254.out, List.length_set] using h_); have ql255 : ((x8_2 : Int) < ((x5_2.length : Int) : Int)) = True := eq_true (of_decide_eq_true as_); obtain ⟨ad255, e255, hx255_0⟩ := Kd.at_int (Kd.R_reads' HO_5.out).2.2 x8_2 p255 q255; obtain rfl : (⟨go30, 0, none⟩ : Addr) = ad255 := (by injection e255); (first | simp only [add_plain] at hx255_0 | simp only [add_at] at hx255_0 | simp only [Addr.add, Nat.zero_add] at hx255_0 | skip); replace p255 := eq_true p255; replace q255 := eq_true q255)))
                    go_roundg k2
                    case measure => have := HJ1.out; have := HK2.out; omega
                    case rel =>
                     have a30_ := of_eq_true p30; have b30_ := of_eq_true q30; have hv_ : rd y254 x8_2 = (wrap64 (Int.tdiv (wrap64 ((rd y247 (ji19)) + (rd y247 (ji22)))) (rd y247 x8_2))) := (by rw [Ny254.out]; unfold rd; rw [List.getD_eq_getElem?_getD, List.getElem?_set_self (by omega)]; rfl)
                     have HPd_ := Kd.R_putg (show Kd.R (Kd.int .i64) 3 (wr.drewN nq) w.heap.size (fun k_ => some k_ ≠ (.slice (some ad250) y247.length co31 : Value).ownBlock) (.slice (some ⟨go30, 0, none⟩) x5_2.length co30) x5_2 by apply Kd.R_drewN; exact HO_5.out) (x8_2 : Int) (wrap64 (Int.tdiv (wrap64 ((rd y247 (ji19)) + (rd y247 (ji22)))) (rd y247 x8_2)))
                     exact ⟨(y254), (wrap64 (x7_2 + (rd y254 x8_2))), (ji22), (by rw [hv_]), (by first | rfl | (simp; done) | (simp only [← hji22] <;> (first | rfl | simp)) | (simp [*]; done)), H', ⟨by have := HJ1.out; have := HK2.out; omega⟩, ⟨by rw [Ny254.out]; exact HPd_.1⟩, ⟨Kd.R_mono (Kd.R_after (v := (.slice (some ⟨go30, 0, none⟩) x5_2.length co30)) (v1 := (.slice (some ⟨go30, 0, none⟩) x5_2.length co30)) (ok := (fun _ => True)) (by apply Kd.R_drewN; exact Kd.R_mono HO_6.out (fun _ hk => ⟨trivial, hk⟩)) HPd_.2 (.inl rfl)) (fun _ hk => hk.2)⟩, ⟨below_set (by apply pw_below_drewN; exact HB.out) GB30.out⟩⟩
                   ·rw [if_neg c29] at H
                    exact absurd H (by simp)
                  ·rw [if_neg c28] at H
                   have c28b0 : ((Int.tmod (wrap64 ((rd y247 (ji19)) + (rd y247 (ji22)))) (rd y247 x8_2)) == 0) = false := beq_eq_false_iff_ne.mpr c28; have c28b1 : ((Int.tmod (wrap64 ((rd y247 (ji19)) + (rd y247 (ji22)))) (rd y247 x8_2)) != 0) = true := bne_iff_ne.mpr c28
                   simp only [Option.some.injEq, Prod.mk.injEq] at H
                   obtain ⟨rfl, rfl⟩ := H; obtain ⟨Ao34, co34, eo34⟩ := Kd.R_slice HO_6.out; subst eo34; have p250 : 0 ≤ ((ji19) : Int) := of_decide_eq_true as_; have q250 : (ji19) < (y247.length : Int) := of_decide_eq_true as_; obtain ⟨ad250, e250, hx250_0⟩ := Kd.at_int (Kd.R_reads' HO_6.out).2.2 (ji19) p250 q250
                   cases e250
                   replace p250 := eq_true p250; replace q250 := eq_true q250; have p251 : 0 ≤ ((ji22) : Int) := of_decide_eq_true as_; have q251 : (ji22) < (y247.length : Int) := of_decide_eq_true as_; obtain ⟨ad251, e251, hx251_0⟩ := Kd.at_int (Kd.R_reads' HO_6.out).2.2 (ji22) p251 q251; obtain rfl : ad250 = ad251 := (by injection e251)
                   replace p251 := eq_true p251; replace q251 := eq_true q251; have p252 : 0 ≤ (x8_2 : Int) := of_decide_eq_true as_; have q252 : x8_2 < (y247.length : Int) := of_decide_eq_true as_; obtain ⟨ad252, e252, hx252_0⟩ := Kd.at_int (Kd.R_reads' HO_6.out).2.2 x8_2 p252 q252; obtain rfl : ad250 = ad252 := (by injection e252)
                   replace p252 := eq_true p252; replace q252 := eq_true q252
                   go_wp2
                   repeat (go_quiet (fail); try go_wp2)
                   go_ret2
                   exact ⟨_, by first | rfl | (simp [errW_none, errW_some] <;> rfl) | (simp only [← hji7, ← hji19, ← hji22]; first | rfl | (simp [errW_none, errW_some] <;> rfl)) | (simp [*, errW_none, errW_some] <;> rfl), by first | exact Kd.R_nil _ _ _ _ _ | exact Kd.N_nil _ _ _ _ _ | exact Kd.V_nil _ _ _ _ _ | exact Kd.Q_nil _ _ _ _ _ | exact Kd.S_nil _ _ _ _ _, bl_ HB.out⟩
                ·rw [if_neg c26] at H
                 exact absurd H (by simp)
               ·rw [if_neg c25] at H
                exact absurd H (by simp)
              ·rw [if_neg c24] at H
               exact absurd H (by simp)
             ·rw [if_neg c23] at H
              exact absurd H (by simp)
            ·rw [if_neg c21] at H
             exact absurd H (by simp)
           ·rw [if_neg c20] at H
            exact absurd H (by simp)
          ·rw [if_neg c18] at H
           have c18b0 : decide (x8_2 < (ji7)) = false := decide_eq_false c18; clear c18
           by_cases c35 : 0 < (x5_2.length : Int)
           ·rw [if_pos c35] at H
            have c35b0 : decide (0 < (x5_2.length : Int)) = true := decide_eq_true c35; have c35b1 : decide (0 < x5_2.length) = true := decide_eq_true (by omega)
            clear c35; obtain ⟨y256, hy256⟩ : ∃ y_ : List Int, y_ = (x5_2.set (0 : Int).toNat (wrap64 ((wrap64 ((wrap64 (3 * (ji7))) - 6)) - x7_2))) := ⟨_, rfl⟩; replace H : ((spec_IsQuiddity.f k2 y256).bind fun t257 => (if t257 = true then (spec_FriezeOfDiagonal.l1 k2 l0 (ji7) y256 1) else (some (([] : List Int), false)))) = some (r1, r2) := rh_ hy256 H
            have Ny256 := Aside0.mk hy256; clear hy256; replace H := Option.bind_eq_some_iff.mp H; obtain ⟨t257, A370, H⟩ := H; replace H : (if t257 = true then (spec_FriezeOfDiagonal.l1 k2 l0 (ji7) y256 1) else (some (([] : List Int), false))) = some (r1, r2) := H
            have A37 := Aside0.mk A370; clear A370
            by_cases c38 : t257 = true
            ·subst c38
             have H1 : (spec_FriezeOfDiagonal.l1 k2 l0 (ji7) y256 1) = some (r1, r2) := by rw [if_pos rfl] at H; exact H
             clear H; have H := H1; clear H1; have H' := Aside0.mk H; clear H; have p36 : 0 ≤ (0 : Int) := (by omega)
             have q36 : (0 : Int) < ((x5_2.length : Int) : Int) := of_decide_eq_true as_; have qi36 : (0 < x5_2.length) = True := eq_true (by omega)
             obtain ⟨go36, co36, eo36, gb36, gl36, cl36, HG36⟩ := Kd.R_form HO_5.out (by omega)
             (first | cases eo36 | (injection eo36 with ea_ en_ ec_; (first | subst ea_ | (injection ea_ with ea_; subst ea_)); subst ec_; clear en_))
             have GB36 := Aside0.mk gb36; have GG36 := Aside0.mk HG36; clear gb36 gl36 HG36; obtain ⟨hx36_0, hf36_0⟩ := Kd.R_celln 0 HO_5.out (0 : Int) p36 q36
             (try rw [show ((0 : Int)).toNat = 0 from rfl] at hx36_0)
             (try simp only [Nat.reduceMul, Nat.zero_mul, Nat.zero_add, Nat.reduceAdd] at hx36_0)
             (try rw [show ((0 : Int)).toNat = 0 from rfl] at hf36_0)
             (try simp only [Nat.reduceMul, Nat.zero_mul, Nat.zero_add, Nat.reduceAdd] at hf36_0)
             replace p36 := eq_true p36; replace q36 := eq_true q36; have HP39 := Kd.R_putg HO_5.out (0 : Int) (wrap64 ((wrap64 ((wrap64 (3 * (ji7))) - 6)) - x7_2))
             (try rw [hji7])
             (try rw [hji19])
             (try rw [hji22])
             go_wp2_with (first | ((with_reducible refine gate_store (t := 3) (p := 74) rfl ?_); (try (rw [drewN_self wr]; generalize hq_ : World.drewN wr _ = wr; have n0_ := Aside0.mk (Kd.R_at hq_ HO_5.out); have n1_ := Aside0.mk (Kd.R_at hq_ HO_6.out); have n2_ := Aside0.mk (below_at hq_ HB.out); clear hq_ HO_5 HO_6 HB; have HO_5 := n0_; have HO_6 := n1_; have HB := n2_; clear n0_ n1_ n2_; (try (have HP39 := Kd.R_putg HO_5.out (0 : Int) (wrap64 ((wrap64 ((wrap64 (3 * (ji7))) - 6)) - x7_2)))))); refine store_event (t := 3) (p := 74) (v := ?vo_w40) (w1 := (wr.setCell ⟨go36, (0 : Int).toNat, none⟩ (.int .i64 (wrap64 ((wrap64 ((wrap64 (3 * (ji7))) - 6)) - x7_2))))) ?hg ?ho ?hn ?hr ?_; (case ho => rfl); (case hg => rfl); (case hn => rfl); (case hr => first | (go_simp; done) | (go_simp; rfl)); intro w40 hw; have hg : wr.grownBy w40 (some go36) := (by rw [hw]; exact HP39.2); have hp_ : Kd.R (Kd.int .i64) 3 w40 w.heap.size (fun k_ => some k_ ≠ (v248 : Value).ownBlock) (.slice (some ⟨go36, 0, none⟩) x5_2.length co36) y256 := (by rw [hw, Ny256.out]; exact HP39.1); clear HP39; have n0_ := Aside0.mk (hp_); have n1_ := Aside0.mk (Kd.R_after (v := (.slice (some ⟨go36, 0, none⟩) x5_2.length co36)) (v1 := (.slice (some ⟨go36, 0, none⟩) x5_2.length co36)) (ok := (fun _ => True)) (by (with_reducible repeat (first | apply Kd.R_alloc | apply Kd.R_drewN | apply Kd.R_drew)); exact Kd.R_mono HO_6.out (fun _ hk => ⟨trivial, hk⟩)) hg (.inl rfl)); have n2_ := Aside0.mk ((by rw [hw]; exact below_set (HB.out) GB36.out : Below w.heap.size w w40)); clear HO_5; clear HO_6; clear HB; have HO_5 := n0_; have HO_6 := n1_; have HB := n2_; clear n0_ n1_ n2_; clear hg hw hp_) | (go_at_call 51; refine calls_of_args (args' := #[.slice (some ⟨go36, 0, none⟩) y256.length co36]) (by first | (rw [show y256.length = x5_2.length from (Kd.R_reads' HO_5.out).1.symm] <;> rfl) | rfl) ?_; (with_reducible refine (spec_IsQuiddity.calls k2 _ _ y256 true _ ?side1 ?side2 A37.out).mono ?_); (case side1 => repeat (first | exact (Kd.R_reads' HO_5.out).2.2 | (with_reducible refine Kd.C_alloc ?_ _) | (with_reducible refine Kd.C_drewN ?_ _) | (with_reducible refine Kd.C_drew ?_))); (case side2 => rw [show y256.length = x5_2.length from (Kd.R_reads' HO_5.out).1.symm]; exact (Kd.R_reads' HO_5.out).2.1); rintro e w41 ⟨rfl, hb⟩; have n0_ := Aside0.mk (Kd.R_below (kr_ HO_5.out) hb); have n1_ := Aside0.mk (Kd.R_below (kr_ HO_6.out) hb); have n2_ := Aside0.mk (below_step (bl_ HB.out) hb); clear HO_5; clear HO_6; clear HB; have HO_5 := n0_; have HO_6 := n1_; have HB := n2_; clear n0_ n1_ n2_; (try clear hb); (try clear hb2); (try clear hk); (try clear hi)))
             repeat (go_quiet (first | ((with_reducible refine gate_store (t := 3) (p := 74) rfl ?_); (try (rw [drewN_self wr]; generalize hq_ : World.drewN wr _ = wr; have n0_ := Aside0.mk (Kd.R_at hq_ HO_5.out); have n1_ := Aside0.mk (Kd.R_at hq_ HO_6.out); have n2_ := Aside0.mk (below_at hq_ HB.out); clear hq_ HO_5 HO_6 HB; have HO_5 := n0_; have HO_6 := n1_; have HB := n2_; clear n0_ n1_ n2_; (try (have HP39 := Kd.R_putg HO_5.out (0 : Int) (wrap64 ((wrap64 ((wrap64 (3 * (ji7))) - 6)) - x7_2)))))); refine store_event (t := 3) (p := 74) (v := ?vo_w40) (w1 := (wr.setCell ⟨go36, (0 : Int).toNat, none⟩ (.int .i64 (wrap64 ((wrap64 ((wrap64 (3 * (ji7))) - 6)) - x7_2))))) ?hg ?ho ?hn ?hr ?_; (case ho => rfl); (case hg => rfl); (case hn => rfl); (case hr => first | (go_simp; done) | (go_simp; rfl)); intro w40 hw; have hg : wr.grownBy w40 (some go36) := (by rw [hw]; exact HP39.2); have hp_ : Kd.R (Kd.int .i64) 3 w40 w.heap.size (fun k_ => some k_ ≠ (v248 : Value).ownBlock) (.slice (some ⟨go36, 0, none⟩) x5_2.length co36) y256 := (by rw [hw, Ny256.out]; exact HP39.1); clear HP39; have n0_ := Aside0.mk (hp_); have n1_ := Aside0.mk (Kd.R_after (v := (.slice (some ⟨go36, 0, none⟩) x5_2.length co36)) (v1 := (.slice (some ⟨go36, 0, none⟩) x5_2.length co36)) (ok := (fun _ => True)) (by (with_reducible repeat (first | apply Kd.R_alloc | apply Kd.R_drewN | apply Kd.R_drew)); exact Kd.R_mono HO_6.out (fun _ hk => ⟨trivial, hk⟩)) hg (.inl rfl)); have n2_ := Aside0.mk ((by rw [hw]; exact below_set (HB.out) GB36.out : Below w.heap.size w w40)); clear HO_5; clear HO_6; clear HB; have HO_5 := n0_; have HO_6 := n1_; have HB := n2_; clear n0_ n1_ n2_; clear hg hw hp_) | (go_at_call 51; refine calls_of_args (args' := #[.slice (some ⟨go36, 0, none⟩) y256.length co36]) (by first | (rw [show y256.length = x5_2.length from (Kd.R_reads' HO_5.out).1.symm] <;> rfl) | rfl) ?_; (with_reducible refine (spec_IsQuiddity.calls k2 _ _ y256 true _ ?side1 ?side2 A37.out).mono ?_); (case side1 => repeat (first | exact (Kd.R_reads' HO_5.out).2.2 | (with_reducible refine Kd.C_alloc ?_ _) | (with_reducible refine Kd.C_drewN ?_ _) | (with_reducible refine Kd.C_drew ?_))); (case side2 => rw [show y256.length = x5_2.length from (Kd.R_reads' HO_5.out).1.symm]; exact (Kd.R_reads' HO_5.out).2.1); rintro e w41 ⟨rfl, hb⟩; have n0_ := Aside0.mk (Kd.R_below (kr_ HO_5.out) hb); have n1_ := Aside0.mk (Kd.R_below (kr_ HO_6.out) hb); have n2_ := Aside0.mk (below_step (bl_ HB.out) hb); clear HO_5; clear HO_6; clear HB; have HO_5 := n0_; have HO_6 := n1_; have HB := n2_; clear n0_ n1_ n2_; (try clear hb); (try clear hb2); (try clear hk); (try clear hi))); try go_wp2_with (first | ((with_reducible refine gate_store (t := 3) (p := 74) rfl ?_); (try (rw [drewN_self wr]; generalize hq_ : World.drewN wr _ = wr; have n0_ := Aside0.mk (Kd.R_at hq_ HO_5.out); have n1_ := Aside0.mk (Kd.R_at hq_ HO_6.out); have n2_ := Aside0.mk (below_at hq_ HB.out); clear hq_ HO_5 HO_6 HB; have HO_5 := n0_; have HO_6 := n1_; have HB := n2_; clear n0_ n1_ n2_; (try (have HP39 := Kd.R_putg HO_5.out (0 : Int) (wrap64 ((wrap64 ((wrap64 (3 * (ji7))) - 6)) - x7_2)))))); refine store_event (t := 3) (p := 74) (v := ?vo_w40) (w1 := (wr.setCell ⟨go36, (0 : Int).toNat, none⟩ (.int .i64 (wrap64 ((wrap64 ((wrap64 (3 * (ji7))) - 6)) - x7_2))))) ?hg ?ho ?hn ?hr ?_; (case ho => rfl); (case hg => rfl); (case hn => rfl); (case hr => first | (go_simp; done) | (go_simp; rfl)); intro w40 hw; have hg : wr.grownBy w40 (some go36) := (by rw [hw]; exact HP39.2); have hp_ : Kd.R (Kd.int .i64) 3 w40 w.heap.size (fun k_ => some k_ ≠ (v248 : Value).ownBlock) (.slice (some ⟨go36, 0, none⟩) x5_2.length co36) y256 := (by rw [hw, Ny256.out]; exact HP39.1); clear HP39; have n0_ := Aside0.mk (hp_); have n1_ := Aside0.mk (Kd.R_after (v := (.slice (some ⟨go36, 0, none⟩) x5_2.length co36)) (v1 := (.slice (some ⟨go36, 0, none⟩) x5_2.length co36)) (ok := (fun _ => True)) (by (with_reducible repeat (first | apply Kd.R_alloc | apply Kd.R_drewN | apply Kd.R_drew)); exact Kd.R_mono HO_6.out (fun _ hk => ⟨trivial, hk⟩)) hg (.inl rfl)); have n2_ := Aside0.mk ((by rw [hw]; exact below_set (HB.out) GB36.out : Below w.heap.size w w40)); clear HO_5; clear HO_6; clear HB; have HO_5 := n0_; have HO_6 := n1_; have HB := n2_; clear n0_ n1_ n2_; clear hg hw hp_) | (go_at_call 51; refine calls_of_args (args' := #[.slice (some ⟨go36, 0, none⟩) y256.length co36]) (by first | (rw [show y256.length = x5_2.length from (Kd.R_reads' HO_5.out).1.symm] <;> rfl) | rfl) ?_; (with_reducible refine (spec_IsQuiddity.calls k2 _ _ y256 true _ ?side1 ?side2 A37.out).mono ?_); (case side1 => repeat (first | exact (Kd.R_reads' HO_5.out).2.2 | (with_reducible refine Kd.C_alloc ?_ _) | (with_reducible refine Kd.C_drewN ?_ _) | (with_reducible refine Kd.C_drew ?_))); (case side2 => rw [show y256.length = x5_2.length from (Kd.R_reads' HO_5.out).1.symm]; exact (Kd.R_reads' HO_5.out).2.1); rintro e w41 ⟨rfl, hb⟩; have n0_ := Aside0.mk (Kd.R_below (kr_ HO_5.out) hb); have n1_ := Aside0.mk (Kd.R_below (kr_ HO_6.out) hb); have n2_ := Aside0.mk (below_step (bl_ HB.out) hb); clear HO_5; clear HO_6; clear HB; have HO_5 := n0_; have HO_6 := n1_; have HB := n2_; clear n0_ n1_ n2_; (try clear hb); (try clear hb2); (try clear hk); (try clear hi))))
             go_loopg [10] k2 (fun kq v10 w' => ∃ (x10_3 : Int), v10 = .int .i64 x10_3 ∧ Aside0 (spec_FriezeOfDiagonal.l1 kq l0 (ji7) y256 x10_3 = some (r1, r2)) ∧ Aside0 (kq ≤ k2) ∧ Aside0 (Kd.R (Kd.int .i64) 3 w' w.heap.size (fun _ => True) (.slice (some ⟨go36, 0, none⟩) x5_2.length co36) y256) ∧ Aside0 (Below w.heap.size w w'))
             case atStart => exact ⟨(1), (fs_), H', ⟨Nat.le_refl _⟩, ⟨by (with_reducible repeat (first | apply Kd.R_alloc | apply Kd.R_drewN | apply Kd.R_drew)); exact Kd.R_mono HO_5.out (fun _ hk => trivial)⟩, ⟨bl_ HB.out⟩⟩
             case round =>
              clear H'
              try clear c1
              try clear c2
              try clear p2
              try clear q2
              try clear hx2
              try clear c3
              try clear p3
              try clear q3
              try clear hx3
              try clear qi3
              try clear hf3
              try clear c4
              try clear c6
              try clear p6
              try clear c8
              try clear c8b0
              try clear c8b1
              try clear c9
              try clear c9b0
              try clear c9b1
              try clear c10
              try clear c11
              try clear c18
              try clear c18b0
              try clear c20
              try clear c20b0
              try clear c21
              try clear c21b0
              try clear c23
              try clear c23b0
              try clear c24
              try clear c24b0
              try clear c25
              try clear c25b0
              try clear p25
              try clear q25
              try clear hx25
              try clear c26
              try clear c26b0
              try clear c27
              try clear c27b0
              try clear c27b1
              try clear c28
              try clear c28b0
              try clear c28b1
              try clear c29
              try clear c29b0
              try clear p30
              try clear q30
              try clear hx30
              try clear hf30
              try clear c35
              try clear c35b0
              try clear c35b1
              try clear p36
              try clear q36
              try clear hx36
              try clear qi36
              try clear hf36
              try clear c38
              try clear hx250_0
              try clear hx251_0
              try clear hx252_0
              try clear hx253_0
              try clear hx255_0
              try clear hx30_0
              try clear hx36_0
              try clear p2
              try clear p250
              try clear p251
              try clear p252
              try clear p253
              try clear p255
              try clear p30
              try clear p36
              try clear p6
              try clear q250
              try clear q251
              try clear q252
              try clear q253
              try clear q255
              try clear q30
              try clear q36
              obtain ⟨x10_3, rfl, HA, HK3, HO_5, HB⟩ := hrel; have hl5_3 := (Kd.R_reads' HO_5.out).1; rw [hl5_3] at HO_5
              (try simp only [hl5_3])
              cases gk with
              | zero => exact absurd HA.out (by simp [spec_FriezeOfDiagonal.l1])
              | succ k3 =>
               have H := HA.out; clear HA
               simp only [spec_FriezeOfDiagonal.l1] at H
               by_cases c42 : x10_3 < (ji7)
               ·rw [if_pos c42] at H
                have c42b0 : decide (x10_3 < (ji7)) = true := decide_eq_true c42; clear c42; replace H := Option.bind_eq_some_iff.mp H; obtain ⟨t258, A430, H⟩ := H; replace H : (if 0 ≤ (wrap64 (x10_3 - 1)) then (if (wrap64 (x10_3 - 1)) < (l0.length : Int) then (if t258 = (rd l0 (wrap64 (x10_3 - 1))) then (spec_FriezeOfDiagonal.l1 k3 l0 (ji7) y256 (wrap64 (x10_3 + 1))) else (some (([] : List Int), false))) else (none)) else (none)) = some (r1, r2) := H
                have A43 := Aside0.mk A430; clear A430; obtain ⟨ji44, hji44⟩ : ∃ j_ : Int, (wrap64 (x10_3 - 1)) = j_ := ⟨_, rfl⟩; replace H : (if 0 ≤ (ji44) then (if (ji44) < (l0.length : Int) then (if t258 = (rd l0 (ji44)) then (spec_FriezeOfDiagonal.l1 k3 l0 (ji7) y256 (wrap64 (x10_3 + 1))) else (some (([] : List Int), false))) else (none)) else (none)) = some (r1, r2) := by first | (rw [hji44] at H; exact H) | (simp only [hji44] at H ⊢; exact H)
                (try rw [hji44] at A43)
                have hji44w : (IntKind.i64.wrap (x10_3 - 1)) = ji44 := (i64_w _).trans hji44
                by_cases c45 : 0 ≤ (ji44)
                ·rw [if_pos c45] at H
                 have c45b0 : decide (0 ≤ (ji44)) = true := decide_eq_true c45; clear c45
                 by_cases c46 : (ji44) < (l0.length : Int)
                 ·rw [if_pos c46] at H
                  have c46b0 : decide ((ji44) < (l0.length : Int)) = true := decide_eq_true c46; clear c46
                  by_cases c47 : t258 = (rd l0 (ji44))
                  ·rw [if_pos c47] at H
                   have c47b0 : (t258 == (rd l0 (ji44))) = true := beq_iff_eq.mpr c47; have c47b1 : (t258 != (rd l0 (ji44))) = false := bne_eq_false_iff_eq.mpr c47; clear c47; have H' := Aside0.mk H; clear H
                   (try rw [hji7])
                   (try rw [hji19])
                   (try rw [hji22])
                   (try rw [hji44])
                   go_wp2_with (first | (go_at_call 52; (with_reducible refine (spec_frEntry.calls k3 _ _ y256 0 x10_3 t258 _ ?side1 ?side2 A43.out).mono ?_); (case side1 => repeat (first | exact (Kd.R_reads' HO_5.out).2.2 | (with_reducible refine Kd.C_alloc ?_ _) | (with_reducible refine Kd.C_drewN ?_ _) | (with_reducible refine Kd.C_drew ?_))); (case side2 => exact (Kd.R_reads' HO_5.out).2.1); rintro e w' ⟨rfl, ⟨nd, rfl⟩⟩; (try first | exact ⟨rfl, _, World.drewN_drewN _ _ _⟩ | exact ⟨rfl, _, Eq.trans (World.drewN_drewN _ _ _) (congrArg (World.drewN _) (Nat.add_assoc _ _ _))⟩); have p259 : 0 ≤ ((ji44) : Int) := of_decide_eq_true as_; have q259 : (ji44) < (l0.length : Int) := of_decide_eq_true as_; obtain ⟨ad259, e259, hx259_0⟩ := Kd.at_int HR0.out (ji44) p259 q259; cases e259; replace hx259_0 := (HB.out.cell (World.block_lt_of_cell? w _ hx259_0)).trans hx259_0; replace p259 := eq_true p259; replace q259 := eq_true q259))
                   repeat (go_quiet (first | (go_at_call 52; (with_reducible refine (spec_frEntry.calls k3 _ _ y256 0 x10_3 t258 _ ?side1 ?side2 A43.out).mono ?_); (case side1 => repeat (first | exact (Kd.R_reads' HO_5.out).2.2 | (with_reducible refine Kd.C_alloc ?_ _) | (with_reducible refine Kd.C_drewN ?_ _) | (with_reducible refine Kd.C_drew ?_))); (case side2 => exact (Kd.R_reads' HO_5.out).2.1); rintro e w' ⟨rfl, ⟨nd, rfl⟩⟩; (try first | exact ⟨rfl, _, World.drewN_drewN _ _ _⟩ | exact ⟨rfl, _, Eq.trans (World.drewN_drewN _ _ _) (congrArg (World.drewN _) (Nat.add_assoc _ _ _))⟩); have p259 : 0 ≤ ((ji44) : Int) := of_decide_eq_true as_; have q259 : (ji44) < (l0.length : Int) := of_decide_eq_true as_; obtain ⟨ad259, e259, hx259_0⟩ := Kd.at_int HR0.out (ji44) p259 q259; cases e259; replace hx259_0 := (HB.out.cell (World.block_lt_of_cell? w _ hx259_0)).trans hx259_0; replace p259 := eq_true p259; replace q259 := eq_true q259)); try go_wp2_with (first | (go_at_call 52; (with_reducible refine (spec_frEntry.calls k3 _ _ y256 0 x10_3 t258 _ ?side1 ?side2 A43.out).mono ?_); (case side1 => repeat (first | exact (Kd.R_reads' HO_5.out).2.2 | (with_reducible refine Kd.C_alloc ?_ _) | (with_reducible refine Kd.C_drewN ?_ _) | (with_reducible refine Kd.C_drew ?_))); (case side2 => exact (Kd.R_reads' HO_5.out).2.1); rintro e w' ⟨rfl, ⟨nd, rfl⟩⟩; (try first | exact ⟨rfl, _, World.drewN_drewN _ _ _⟩ | exact ⟨rfl, _, Eq.trans (World.drewN_drewN _ _ _) (congrArg (World.drewN _) (Nat.add_assoc _ _ _))⟩); have p259 : 0 ≤ ((ji44) : Int) := of_decide_eq_true as_; have q259 : (ji44) < (l0.length : Int) := of_decide_eq_true as_; obtain ⟨ad259, e259, hx259_0⟩ := Kd.at_int HR0.out (ji44) p259 q259; cases e259; replace hx259_0 := (HB.out.cell (World.block_lt_of_cell? w _ hx259_0)).trans hx259_0; replace p259 := eq_true p259; replace q259 := eq_true q259)))
                   (try simp only [← hl5_3])
                   go_roundg k3
                   case measure => have := HJ1.out; have := HK2.out; have := HK3.out; omega
                   case rel => exact ⟨(wrap64 (x10_3 + 1)), (fs_), H', ⟨by have := HJ1.out; have := HK2.out; have := HK3.out; omega⟩, ⟨by (try simp only [hl5_3]); (with_reducible repeat (first | apply Kd.R_alloc | apply Kd.R_drewN | apply Kd.R_drew)); exact HO_5.out⟩, ⟨bl_ HB.out⟩⟩
                  ·rw [if_neg c47] at H
                   have c47b0 : (t258 == (rd l0 (ji44))) = false := beq_eq_false_iff_ne.mpr c47; have c47b1 : (t258 != (rd l0 (ji44))) = true := bne_iff_ne.mpr c47
                   simp only [Option.some.injEq, Prod.mk.injEq] at H
                   obtain ⟨rfl, rfl⟩ := H
                   (try rw [hji7])
                   (try rw [hji19])
                   (try rw [hji22])
                   (try rw [hji44])
                   go_wp2_with (first | (go_at_call 52; (with_reducible refine (spec_frEntry.calls k3 _ _ y256 0 x10_3 t258 _ ?side1 ?side2 A43.out).mono ?_); (case side1 => repeat (first | exact (Kd.R_reads' HO_5.out).2.2 | (with_reducible refine Kd.C_alloc ?_ _) | (with_reducible refine Kd.C_drewN ?_ _) | (with_reducible refine Kd.C_drew ?_))); (case side2 => exact (Kd.R_reads' HO_5.out).2.1); rintro e w' ⟨rfl, ⟨nd, rfl⟩⟩; (try first | exact ⟨rfl, _, World.drewN_drewN _ _ _⟩ | exact ⟨rfl, _, Eq.trans (World.drewN_drewN _ _ _) (congrArg (World.drewN _) (Nat.add_assoc _ _ _))⟩); have p259 : 0 ≤ ((ji44) : Int) := of_decide_eq_true as_; have q259 : (ji44) < (l0.length : Int) := of_decide_eq_true as_; obtain ⟨ad259, e259, hx259_0⟩ := Kd.at_int HR0.out (ji44) p259 q259; cases e259; replace hx259_0 := (HB.out.cell (World.block_lt_of_cell? w _ hx259_0)).trans hx259_0; replace p259 := eq_true p259; replace q259 := eq_true q259))
                   repeat (go_quiet (first | (go_at_call 52; (with_reducible refine (spec_frEntry.calls k3 _ _ y256 0 x10_3 t258 _ ?side1 ?side2 A43.out).mono ?_); (case side1 => repeat (first | exact (Kd.R_reads' HO_5.out).2.2 | (with_reducible refine Kd.C_alloc ?_ _) | (with_reducible refine Kd.C_drewN ?_ _) | (with_reducible refine Kd.C_drew ?_))); (case side2 => exact (Kd.R_reads' HO_5.out).2.1); rintro e w' ⟨rfl, ⟨nd, rfl⟩⟩; (try first | exact ⟨rfl, _, World.drewN_drewN _ _ _⟩ | exact ⟨rfl, _, Eq.trans (World.drewN_drewN _ _ _) (congrArg (World.drewN _) (Nat.add_assoc _ _ _))⟩); have p259 : 0 ≤ ((ji44) : Int) := of_decide_eq_true as_; have q259 : (ji44) < (l0.length : Int) := of_decide_eq_true as_; obtain ⟨ad259, e259, hx259_0⟩ := Kd.at_int HR0.out (ji44) p259 q259; cases e259; replace hx259_0 := (HB.out.cell (World.block_lt_of_cell? w _ hx259_0)).trans hx259_0; replace p259 := eq_true p259; replace q259 := eq_true q259)); try go_wp2_with (first | (go_at_call 52; (with_reducible refine (spec_frEntry.calls k3 _ _ y256 0 x10_3 t258 _ ?side1 ?side2 A43.out).mono ?_); (case side1 => repeat (first | exact (Kd.R_reads' HO_5.out).2.2 | (with_reducible refine Kd.C_alloc ?_ _) | (with_reducible refine Kd.C_drewN ?_ _) | (with_reducible refine Kd.C_drew ?_))); (case side2 => exact (Kd.R_reads' HO_5.out).2.1); rintro e w' ⟨rfl, ⟨nd, rfl⟩⟩; (try first | exact ⟨rfl, _, World.drewN_drewN _ _ _⟩ | exact ⟨rfl, _, Eq.trans (World.drewN_drewN _ _ _) (congrArg (World.drewN _) (Nat.add_assoc _ _ _))⟩); have p259 : 0 ≤ ((ji44) : Int) := of_decide_eq_true as_; have q259 : (ji44) < (l0.length : Int) := of_decide_eq_true as_; obtain ⟨ad259, e259, hx259_0⟩ := Kd.at_int HR0.out (ji44) p259 q259; cases e259; replace hx259_0 := (HB.out.cell (World.block_lt_of_cell? w _ hx259_0)).trans hx259_0; replace p259 := eq_true p259; replace q259 := eq_true q259)))
                   go_ret2
                   exact ⟨_, by first | rfl | (simp [errW_none, errW_some] <;> rfl) | (simp only [← hji7, ← hji44]; first | rfl | (simp [errW_none, errW_some] <;> rfl)) | (simp [*, errW_none, errW_some] <;> rfl), by first | exact Kd.R_nil _ _ _ _ _ | exact Kd.N_nil _ _ _ _ _ | exact Kd.V_nil _ _ _ _ _ | exact Kd.Q_nil _ _ _ _ _ | exact Kd.S_nil _ _ _ _ _, bl_ HB.out⟩
                 ·rw [if_neg c46] at H
                  exact absurd H (by simp)
                ·rw [if_neg c45] at H
                 exact absurd H (by simp)
               ·rw [if_neg c42] at H
                have c42b0 : decide (x10_3 < (ji7)) = false := decide_eq_false c42; clear c42
                simp only [Option.some.injEq, Prod.mk.injEq] at H
                obtain ⟨rfl, rfl⟩ := H
                go_wp2
                repeat (go_quiet (fail); try go_wp2)
                go_ret2
                exact ⟨_, by first | rfl | (simp [errW_none, errW_some] <;> rfl) | (simp only [← hji7]; first | rfl | (simp [errW_none, errW_some] <;> rfl)) | (simp [*, errW_none, errW_some] <;> rfl), by (with_reducible repeat (first | apply Kd.R_alloc | apply Kd.R_drewN | apply Kd.R_drew)); exact HO_5.out, bl_ HB.out⟩
            ·replace c38 := Bool.eq_false_iff.mpr c38
             subst c38; have H1 : (some (([] : List Int), false)) = some (r1, r2) := by rw [if_neg (show ¬ (false = true) by decide)] at H; exact H
             clear H; have H := H1; clear H1
             simp only [Option.some.injEq, Prod.mk.injEq] at H
             obtain ⟨rfl, rfl⟩ := H; have p36 : 0 ≤ (0 : Int) := (by omega)
             have q36 : (0 : Int) < ((x5_2.length : Int) : Int) := of_decide_eq_true as_; have qi36 : (0 < x5_2.length) = True := eq_true (by omega)
             obtain ⟨go36, co36, eo36, gb36, gl36, cl36, HG36⟩ := Kd.R_form HO_5.out (by omega)
             (first | cases eo36 | (injection eo36 with ea_ en_ ec_; (first | subst ea_ | (injection ea_ with ea_; subst ea_)); subst ec_; clear en_))
             have GB36 := Aside0.mk gb36; have GG36 := Aside0.mk HG36; clear gb36 gl36 HG36; obtain ⟨hx36_0, hf36_0⟩ := Kd.R_celln 0 HO_5.out (0 : Int) p36 q36
             (try rw [show ((0 : Int)).toNat = 0 from rfl] at hx36_0)
             (try simp only [Nat.reduceMul, Nat.zero_mul, Nat.zero_add, Nat.reduceAdd] at hx36_0)
             (try rw [show ((0 : Int)).toNat = 0 from rfl] at hf36_0)
             (try simp only [Nat.reduceMul, Nat.zero_mul, Nat.zero_add, Nat.reduceAdd] at hf36_0)
             replace p36 := eq_true p36; replace q36 := eq_true q36; have HP48 := Kd.R_putg HO_5.out (0 : Int) (wrap64 ((wrap64 ((wrap64 (3 * (ji7))) - 6)) - x7_2))
             (try rw [hji7])
             (try rw [hji19])
             (try rw [hji22])
             (try rw [hji44])
             go_wp2_with (first | ((with_reducible refine gate_store (t := 3) (p := 74) rfl ?_); (try (rw [drewN_self wr]; generalize hq_ : World.drewN wr _ = wr; have n0_ := Aside0.mk (Kd.R_at hq_ HO_5.out); have n1_ := Aside0.mk (Kd.R_at hq_ HO_6.out); have n2_ := Aside0.mk (below_at hq_ HB.out); clear hq_ HO_5 HO_6 HB; have HO_5 := n0_; have HO_6 := n1_; have HB := n2_; clear n0_ n1_ n2_; (try (have HP48 := Kd.R_putg HO_5.out (0 : Int) (wrap64 ((wrap64 ((wrap64 (3 * (ji7))) - 6)) - x7_2)))))); refine store_event (t := 3) (p := 74) (v := ?vo_w49) (w1 := (wr.setCell ⟨go36, (0 : Int).toNat, none⟩ (.int .i64 (wrap64 ((wrap64 ((wrap64 (3 * (ji7))) - 6)) - x7_2))))) ?hg ?ho ?hn ?hr ?_; (case ho => rfl); (case hg => rfl); (case hn => rfl); (case hr => first | (go_simp; done) | (go_simp; rfl)); intro w49 hw; have hg : wr.grownBy w49 (some go36) := (by rw [hw]; exact HP48.2); have hp_ : Kd.R (Kd.int .i64) 3 w49 w.heap.size (fun k_ => some k_ ≠ (v248 : Value).ownBlock) (.slice (some ⟨go36, 0, none⟩) x5_2.length co36) y256 := (by rw [hw, Ny256.out]; exact HP48.1); clear HP48; have n0_ := Aside0.mk (hp_); have n1_ := Aside0.mk (Kd.R_after (v := (.slice (some ⟨go36, 0, none⟩) x5_2.length co36)) (v1 := (.slice (some ⟨go36, 0, none⟩) x5_2.length co36)) (ok := (fun _ => True)) (by (with_reducible repeat (first | apply Kd.R_alloc | apply Kd.R_drewN | apply Kd.R_drew)); exact Kd.R_mono HO_6.out (fun _ hk => ⟨trivial, hk⟩)) hg (.inl rfl)); have n2_ := Aside0.mk ((by rw [hw]; exact below_set (HB.out) GB36.out : Below w.heap.size w w49)); clear HO_5; clear HO_6; clear HB; have HO_5 := n0_; have HO_6 := n1_; have HB := n2_; clear n0_ n1_ n2_; clear hg hw hp_) | (go_at_call 51; refine calls_of_args (args' := #[.slice (some ⟨go36, 0, none⟩) y256.length co36]) (by first | (rw [show y256.length = x5_2.length from (Kd.R_reads' HO_5.out).1.symm] <;> rfl) | rfl) ?_; (with_reducible refine (spec_IsQuiddity.calls k2 _ _ y256 false _ ?side1 ?side2 A37.out).mono ?_); (case side1 => repeat (first | exact (Kd.R_reads' HO_5.out).2.2 | (with_reducible refine Kd.C_alloc ?_ _) | (with_reducible refine Kd.C_drewN ?_ _) | (with_reducible refine Kd.C_drew ?_))); (case side2 => rw [show y256.length = x5_2.length from (Kd.R_reads' HO_5.out).1.symm]; exact (Kd.R_reads' HO_5.out).2.1); rintro e w50 ⟨rfl, hb⟩; have n0_ := Aside0.mk (Kd.R_below (kr_ HO_5.out) hb); have n1_ := Aside0.mk (Kd.R_below (kr_ HO_6.out) hb); have n2_ := Aside0.mk (below_step (bl_ HB.out) hb); clear HO_5; clear HO_6; clear HB; have HO_5 := n0_; have HO_6 := n1_; have HB := n2_; clear n0_ n1_ n2_; (try clear hb); (try clear hb2); (try clear hk); (try clear hi)))
             repeat (go_quiet (first | ((with_reducible refine gate_store (t := 3) (p := 74) rfl ?_); (try (rw [drewN_self wr]; generalize hq_ : World.drewN wr _ = wr; have n0_ := Aside0.mk (Kd.R_at hq_ HO_5.out); have n1_ := Aside0.mk (Kd.R_at hq_ HO_6.out); have n2_ := Aside0.mk (below_at hq_ HB.out); clear hq_ HO_5 HO_6 HB; have HO_5 := n0_; have HO_6 := n1_; have HB := n2_; clear n0_ n1_ n2_; (try (have HP48 := Kd.R_putg HO_5.out (0 : Int) (wrap64 ((wrap64 ((wrap64 (3 * (ji7))) - 6)) - x7_2)))))); refine store_event (t := 3) (p := 74) (v := ?vo_w49) (w1 := (wr.setCell ⟨go36, (0 : Int).toNat, none⟩ (.int .i64 (wrap64 ((wrap64 ((wrap64 (3 * (ji7))) - 6)) - x7_2))))) ?hg ?ho ?hn ?hr ?_; (case ho => rfl); (case hg => rfl); (case hn => rfl); (case hr => first | (go_simp; done) | (go_simp; rfl)); intro w49 hw; have hg : wr.grownBy w49 (some go36) := (by rw [hw]; exact HP48.2); have hp_ : Kd.R (Kd.int .i64) 3 w49 w.heap.size (fun k_ => some k_ ≠ (v248 : Value).ownBlock) (.slice (some ⟨go36, 0, none⟩) x5_2.length co36) y256 := (by rw [hw, Ny256.out]; exact HP48.1); clear HP48; have n0_ := Aside0.mk (hp_); have n1_ := Aside0.mk (Kd.R_after (v := (.slice (some ⟨go36, 0, none⟩) x5_2.length co36)) (v1 := (.slice (some ⟨go36, 0, none⟩) x5_2.length co36)) (ok := (fun _ => True)) (by (with_reducible repeat (first | apply Kd.R_alloc | apply Kd.R_drewN | apply Kd.R_drew)); exact Kd.R_mono HO_6.out (fun _ hk => ⟨trivial, hk⟩)) hg (.inl rfl)); have n2_ := Aside0.mk ((by rw [hw]; exact below_set (HB.out) GB36.out : Below w.heap.size w w49)); clear HO_5; clear HO_6; clear HB; have HO_5 := n0_; have HO_6 := n1_; have HB := n2_; clear n0_ n1_ n2_; clear hg hw hp_) | (go_at_call 51; refine calls_of_args (args' := #[.slice (some ⟨go36, 0, none⟩) y256.length co36]) (by first | (rw [show y256.length = x5_2.length from (Kd.R_reads' HO_5.out).1.symm] <;> rfl) | rfl) ?_; (with_reducible refine (spec_IsQuiddity.calls k2 _ _ y256 false _ ?side1 ?side2 A37.out).mono ?_); (case side1 => repeat (first | exact (Kd.R_reads' HO_5.out).2.2 | (with_reducible refine Kd.C_alloc ?_ _) | (with_reducible refine Kd.C_drewN ?_ _) | (with_reducible refine Kd.C_drew ?_))); (case side2 => rw [show y256.length = x5_2.length from (Kd.R_reads' HO_5.out).1.symm]; exact (Kd.R_reads' HO_5.out).2.1); rintro e w50 ⟨rfl, hb⟩; have n0_ := Aside0.mk (Kd.R_below (kr_ HO_5.out) hb); have n1_ := Aside0.mk (Kd.R_below (kr_ HO_6.out) hb); have n2_ := Aside0.mk (below_step (bl_ HB.out) hb); clear HO_5; clear HO_6; clear HB; have HO_5 := n0_; have HO_6 := n1_; have HB := n2_; clear n0_ n1_ n2_; (try clear hb); (try clear hb2); (try clear hk); (try clear hi))); try go_wp2_with (first | ((with_reducible refine gate_store (t := 3) (p := 74) rfl ?_); (try (rw [drewN_self wr]; generalize hq_ : World.drewN wr _ = wr; have n0_ := Aside0.mk (Kd.R_at hq_ HO_5.out); have n1_ := Aside0.mk (Kd.R_at hq_ HO_6.out); have n2_ := Aside0.mk (below_at hq_ HB.out); clear hq_ HO_5 HO_6 HB; have HO_5 := n0_; have HO_6 := n1_; have HB := n2_; clear n0_ n1_ n2_; (try (have HP48 := Kd.R_putg HO_5.out (0 : Int) (wrap64 ((wrap64 ((wrap64 (3 * (ji7))) - 6)) - x7_2)))))); refine store_event (t := 3) (p := 74) (v := ?vo_w49) (w1 := (wr.setCell ⟨go36, (0 : Int).toNat, none⟩ (.int .i64 (wrap64 ((wrap64 ((wrap64 (3 * (ji7))) - 6)) - x7_2))))) ?hg ?ho ?hn ?hr ?_; (case ho => rfl); (case hg => rfl); (case hn => rfl); (case hr => first | (go_simp; done) | (go_simp; rfl)); intro w49 hw; have hg : wr.grownBy w49 (some go36) := (by rw [hw]; exact HP48.2); have hp_ : Kd.R (Kd.int .i64) 3 w49 w.heap.size (fun k_ => some k_ ≠ (v248 : Value).ownBlock) (.slice (some ⟨go36, 0, none⟩) x5_2.length co36) y256 := (by rw [hw, Ny256.out]; exact HP48.1); clear HP48; have n0_ := Aside0.mk (hp_); have n1_ := Aside0.mk (Kd.R_after (v := (.slice (some ⟨go36, 0, none⟩) x5_2.length co36)) (v1 := (.slice (some ⟨go36, 0, none⟩) x5_2.length co36)) (ok := (fun _ => True)) (by (with_reducible repeat (first | apply Kd.R_alloc | apply Kd.R_drewN | apply Kd.R_drew)); exact Kd.R_mono HO_6.out (fun _ hk => ⟨trivial, hk⟩)) hg (.inl rfl)); have n2_ := Aside0.mk ((by rw [hw]; exact below_set (HB.out) GB36.out : Below w.heap.size w w49)); clear HO_5; clear HO_6; clear HB; have HO_5 := n0_; have HO_6 := n1_; have HB := n2_; clear n0_ n1_ n2_; clear hg hw hp_) | (go_at_call 51; refine calls_of_args (args' := #[.slice (some ⟨go36, 0, none⟩) y256.length co36]) (by first | (rw [show y256.length = x5_2.length from (Kd.R_reads' HO_5.out).1.symm] <;> rfl) | rfl) ?_; (with_reducible refine (spec_IsQuiddity.calls k2 _ _ y256 false _ ?side1 ?side2 A37.out).mono ?_); (case side1 => repeat (first | exact (Kd.R_reads' HO_5.out).2.2 | (with_reducible refine Kd.C_alloc ?_ _) | (with_reducible refine Kd.C_drewN ?_ _) | (with_reducible refine Kd.C_drew ?_))); (case side2 => rw [show y256.length = x5_2.length from (Kd.R_reads' HO_5.out).1.symm]; exact (Kd.R_reads' HO_5.out).2.1); rintro e w50 ⟨rfl, hb⟩; have n0_ := Aside0.mk (Kd.R_below (kr_ HO_5.out) hb); have n1_ := Aside0.mk (Kd.R_below (kr_ HO_6.out) hb); have n2_ := Aside0.mk (below_step (bl_ HB.out) hb); clear HO_5; clear HO_6; clear HB; have HO_5 := n0_; have HO_6 := n1_; have HB := n2_; clear n0_ n1_ n2_; (try clear hb); (try clear hb2); (try clear hk); (try clear hi))))
             go_ret2
             exact ⟨_, by first | rfl | (simp [errW_none, errW_some] <;> rfl) | (simp only [← hji7]; first | rfl | (simp [errW_none, errW_some] <;> rfl)) | (simp [*, errW_none, errW_some] <;> rfl), by first | exact Kd.R_nil _ _ _ _ _ | exact Kd.N_nil _ _ _ _ _ | exact Kd.V_nil _ _ _ _ _ | exact Kd.Q_nil _ _ _ _ _ | exact Kd.S_nil _ _ _ _ _, bl_ HB.out⟩
           ·rw [if_neg c35] at H
            exact absurd H (by simp)
       ·rw [if_neg c11] at H
        exact absurd H (by simp)
      ·rw [if_neg c10] at H
       exact absurd H (by simp)
     ·rw [if_neg c9] at H
      exact absurd H (by simp)
    ·rw [if_neg c8] at H
     exact absurd H (by simp)
end Go.Proofs.Ytinnmloliknilab.PFnExactFriezeOfDiagonal
