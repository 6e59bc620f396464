-- Written for this claim by a program of this session (wip/tools/xprint.py over the kit's printer, wip/tools/shrink.py).
import Derived.Test.YtinnmloliknilabPFnExactOnesOfx0
import Derived.Test.YtinnmloliknilabPFnExactOnesOfx4
import Derived.Test.YtinnmloliknilabPFnExactOnesOfx13
import Derived.Test.YtinnmloliknilabPFnExactOnesOfx14
import Derived.Test.YtinnmloliknilabPFnExactOnesOfx15
namespace Go.Proofs.Ytinnmloliknilab.PFnExactOnesOf
open Go.RowKit Go.Proofs.YtinnmloliknilabW.PrintWords Go.Proofs.YtinnmloliknilabW.PrintLast Go.Proofs.YtinnmloliknilabW.PrintMore
attribute [local go_sem] max2_int min2_int max_two min_two max_three min_three max_four min_four   -- for this text's walks alone
set_option linter.unusedVariables false
set_option linter.unusedSimpArgs false
mutual
def laws_FnExactOnesOf.j0 : Nat → List Int → List (S59) → Bool → List Int → List (S59) → Bool → Bool → Option (Bool)
 | 0, _, _, _, _, _, _, _ => none
 | k + 1, x0, x3, x4, x5, x6, x7, x37 => if x37 = true then (none) else ((laws_toIntS.f k x0).bind fun t387 => ((laws_eqIntS.f k x5 t387).bind fun t390 => (if t390 = true then ((laws_markIntS.f k x5 1).bind fun bt391 => (if bt391.1 < 0 then (laws_FnExactOnesOf.j1 k x0 x3 x4 x6 true) else ((laws_eqDiagonalS.f k x6 x3).bind fun t393 => (if t393 = true then (laws_FnExactOnesOf.j1 k x0 x3 x4 x6 (x7 != x4)) else (laws_FnExactOnesOf.j1 k x0 x3 x4 x6 true))))) else (none))))
def laws_FnExactOnesOf.j1 : Nat → List Int → List (S59) → Bool → List (S59) → Bool → Option (Bool)
 | 0, _, _, _, _, _ => none
 | k + 1, x0, x3, x4, x6, x58 => if x58 = true then (none) else ((laws_markDiagonalS.f k x6 1).bind fun bt394 => ((laws_heldDiagonalS.f k bt394.2 1).bind fun t396 => (if t396 < 0 then (none) else (if t396 = bt394.1 then ((laws_toIntS.f k x0).bind fun t397 => ((impl_OnesOf.f k t397).bind fun bt400 => ((laws_eqDiagonalS.f k bt400.1 x3).bind fun t404 => (if t404 = true then (laws_FnExactOnesOf.j2 k bt394.2 bt394.1 (bt400.2 != x4)) else (laws_FnExactOnesOf.j2 k bt394.2 bt394.1 true))))) else (none)))))
def laws_FnExactOnesOf.j2 : Nat → List (S59) → Int → Bool → Option (Bool)
 | 0, _, _, _ => none
 | k + 1, x6, x9, x84 => if x84 = true then (none) else ((laws_heldDiagonalS.f k x6 1).bind fun t405 => (if t405 < 0 then (none) else (if t405 = x9 then (some true) else (none))))
end
def laws_FnExactOnesOf.f (k : Nat) (l0 : List Int) : Option (Bool) := if (l0.length : Int) > 1048576 then (some true) else ((laws_toIntS.f k l0).bind fun t372 => ((spec_OnesOf.f k t372).bind fun bt375 => ((laws_toIntS.f k l0).bind fun t379 => ((impl_OnesOf.f k t379).bind fun bt382 => ((laws_eqDiagonalS.f k bt382.1 bt375.1).bind fun t386 => (if t386 = true then (laws_FnExactOnesOf.j0 k l0 bt375.1 bt375.2 t379 bt382.1 bt382.2 (bt382.2 != bt375.2)) else (laws_FnExactOnesOf.j0 k l0 bt375.1 bt375.2 t379 bt382.1 bt382.2 true)))))))
set_option maxHeartbeats 8000000 in
set_option maxRecDepth 100000 in
theorem laws_FnExactOnesOf.calls (k : Nat) (A0 : Option Addr) (c0 : Nat) (l0 : List Int) (r : Bool) (w : World) (hr0 : Kd.C (Kd.int .i64) w A0 l0.length l0) (hc0 : l0.length ≤ c0) (h : laws_FnExactOnesOf.f k l0 = some r) :
  Calls Try.prog 7 #[.slice A0 l0.length c0] w fun e w' => e = .returned (.bool r) ∧ Below w.heap.size w w' := by
 have HR0 := Aside0.mk hr0; have HC0 := Aside0.mk hc0; clear hr0 hc0; have HB := Aside0.mk (Below.refl w.heap.size w); have H : (if (l0.length : Int) > 1048576 then (some true) else ((laws_toIntS.f k l0).bind fun t372 => ((spec_OnesOf.f k t372).bind fun bt375 => ((laws_toIntS.f k l0).bind fun t379 => ((impl_OnesOf.f k t379).bind fun bt382 => ((laws_eqDiagonalS.f k bt382.1 bt375.1).bind fun t386 => (if t386 = true then (laws_FnExactOnesOf.j0 k l0 bt375.1 bt375.2 t379 bt382.1 bt382.2 (bt382.2 != bt375.2)) else (laws_FnExactOnesOf.j0 k l0 bt375.1 bt375.2 t379 bt382.1 bt382.2 true)))))))) = some r := h
 clear h
 by_cases c2 : (l0.length : Int) > 1048576
 ·rw [if_pos c2] at H
  have c2b0 : decide (1048576 < (l0.length : Int)) = true := decide_eq_true c2; have c2b1 : decide (1048576 < l0.length) = true := decide_eq_true (by omega)
  clear c2; obtain rfl := Option.some.inj H
  go_enter Try.func7, Try.ntmps7
  go_wp2
  go_ret
  exact ⟨by first | rfl | (simp [errW_none, errW_some] <;> rfl) | (simp [*, errW_none, errW_some] <;> rfl), bl_ HB.out⟩
 ·rw [if_neg c2] at H
  have c2b0 : decide (1048576 < (l0.length : Int)) = false := decide_eq_false c2; have c2b1 : decide (1048576 < l0.length) = false := decide_eq_false (by omega)
  clear c2; replace H := Option.bind_eq_some_iff.mp H; obtain ⟨t372, A30, H⟩ := H; replace H : ((spec_OnesOf.f k t372).bind fun bt375 => ((laws_toIntS.f k l0).bind fun t379 => ((impl_OnesOf.f k t379).bind fun bt382 => ((laws_eqDiagonalS.f k bt382.1 bt375.1).bind fun t386 => (if t386 = true then (laws_FnExactOnesOf.j0 k l0 bt375.1 bt375.2 t379 bt382.1 bt382.2 (bt382.2 != bt375.2)) else (laws_FnExactOnesOf.j0 k l0 bt375.1 bt375.2 t379 bt382.1 bt382.2 true)))))) = some r := H
  have A3 := Aside0.mk A30; clear A30; replace H := Option.bind_eq_some_iff.mp H; obtain ⟨⟨t375, t376⟩, A40, H⟩ := H; replace H : ((laws_toIntS.f k l0).bind fun t379 => ((impl_OnesOf.f k t379).bind fun bt382 => ((laws_eqDiagonalS.f k bt382.1 t375).bind fun t386 => (if t386 = true then (laws_FnExactOnesOf.j0 k l0 t375 t376 t379 bt382.1 bt382.2 (bt382.2 != t376)) else (laws_FnExactOnesOf.j0 k l0 t375 t376 t379 bt382.1 bt382.2 true))))) = some r := H
  have A4 := Aside0.mk A40; clear A40; replace H := Option.bind_eq_some_iff.mp H; obtain ⟨t379, A50, H⟩ := H; replace H : ((impl_OnesOf.f k t379).bind fun bt382 => ((laws_eqDiagonalS.f k bt382.1 t375).bind fun t386 => (if t386 = true then (laws_FnExactOnesOf.j0 k l0 t375 t376 t379 bt382.1 bt382.2 (bt382.2 != t376)) else (laws_FnExactOnesOf.j0 k l0 t375 t376 t379 bt382.1 bt382.2 true)))) = some r := H
  have A5 := Aside0.mk A50; clear A50; replace H := Option.bind_eq_some_iff.mp H; obtain ⟨⟨t382, t383⟩, A60, H⟩ := H; replace H : ((laws_eqDiagonalS.f k t382 t375).bind fun t386 => (if t386 = true then (laws_FnExactOnesOf.j0 k l0 t375 t376 t379 t382 t383 (t383 != t376)) else (laws_FnExactOnesOf.j0 k l0 t375 t376 t379 t382 t383 true))) = some r := H
  have A6 := Aside0.mk A60; clear A60; have HC7 := Aside0.mk H; clear H
  go_enter Try.func7, Try.ntmps7
  go_upto_region 6 with (first | ((with_reducible refine gate_callee (f := 13) rfl ?_); refine goesL_ (some 18) rfl rfl Try.func13 (by kernel_rfl) rfl #[.slice A0 l0.length c0] rfl (by (try simp only [List.map_toArray, List.map_cons, List.map_nil]); first | done | rfl | (simp only [List.length_drop, List.length_take]; rfl)) ?_; (with_reducible refine (laws_toIntS.calls k _ _ l0 t372 _ ?side1 ?side2 A3.out).mono ?_); (case side1 => repeat (first | exact HR0.out | (with_reducible refine Kd.C_alloc ?_ _) | (with_reducible refine Kd.C_drewN ?_ _) | (with_reducible refine Kd.C_drew ?_))); (case side2 => exact HC0.out); rintro e w8 ⟨v373, rfl, ho0, hb⟩; refine ⟨_, rfl, ?_⟩; have n0_ := Aside0.mk (Kd.R_lower ho0 (below_size (bl_ HB.out))); have n1_ := Aside0.mk (below_step (bl_ HB.out) hb); clear HB; have HO374 := n0_; have HB := n1_; clear n0_ n1_; (try clear hb); (try clear hb2); (try clear hk); (try clear hi); (try clear ho0); obtain ⟨Ao9, co9, eo9⟩ := Kd.R_slice HO374.out; subst eo9) | ((with_reducible refine gate_callee (f := 27) rfl ?_); refine goesL_ (some 19) rfl rfl Try.func27 (by kernel_rfl) rfl #[.slice Ao9 t372.length co9] rfl (by (try simp only [List.map_toArray, List.map_cons, List.map_nil]); first | done | rfl | (simp only [List.length_drop, List.length_take]; rfl)) ?_; (with_reducible refine (spec_OnesOf.calls k _ _ t372 t375 t376 _ ?side1 ?side2 A4.out).mono ?_); (case side1 => repeat (first | exact (Kd.R_reads' HO374.out).2.2 | (with_reducible refine Kd.C_alloc ?_ _) | (with_reducible refine Kd.C_drewN ?_ _) | (with_reducible refine Kd.C_drew ?_))); (case side2 => exact (Kd.R_reads' HO374.out).2.1); rintro e w10 ⟨v377, rfl, ho0, hb⟩; refine ⟨_, rfl, ?_⟩; have n0_ := Aside0.mk (Kd.R_below (kr_ HO374.out) hb); have n1_ := Aside0.mk (Kd.R_lower ho0 (below_size (bl_ HB.out))); have n2_ := Aside0.mk (below_step (bl_ HB.out) hb); clear HO374; clear HB; have HO374 := n0_; have HO378 := n1_; have HB := n2_; clear n0_ n1_ n2_; (try clear hb); (try clear hb2); (try clear hk); (try clear hi); (try clear ho0)) | ((with_reducible refine gate_callee (f := 13) rfl ?_); refine goesL_ (some 23) rfl rfl Try.func13 (by kernel_rfl) rfl #[.slice A0 l0.length c0] rfl (by (try simp only [List.map_toArray, List.map_cons, List.map_nil]); first | done | rfl | (simp only [List.length_drop, List.length_take]; rfl)) ?_; (with_reducible refine (laws_toIntS.calls k _ _ l0 t379 _ ?side1 ?side2 A5.out).mono ?_); (case side1 => repeat (first | exact (Kd.C_below HR0.out HB.out) | (with_reducible refine Kd.C_alloc ?_ _) | (with_reducible refine Kd.C_drewN ?_ _) | (with_reducible refine Kd.C_drew ?_))); (case side2 => exact HC0.out); rintro e w11 ⟨v380, rfl, ho0, hb⟩; refine ⟨_, rfl, ?_⟩; have n0_ := Aside0.mk (Kd.R_elder' (kr_ HO374.out) (Kd.R_base ho0) hb); have n1_ := Aside0.mk (Kd.R_below (kr_ HO378.out) hb); have n2_ := Aside0.mk (Kd.R_lower (Kd.R_new' ho0 (Kd.R_lt (kr_ HO374.out))) (below_size (bl_ HB.out))); have n3_ := Aside0.mk (below_step (bl_ HB.out) hb); clear HO374; clear HO378; clear HB; have HO374 := n0_; have HO378 := n1_; have HO381 := n2_; have HB := n3_; clear n0_ n1_ n2_ n3_; (try clear hb); (try clear hb2); (try clear hk); (try clear hi); (try clear ho0); obtain ⟨Ao12, co12, eo12⟩ := Kd.R_slice HO381.out; subst eo12) | ((with_reducible refine gate_callee (f := 28) rfl ?_); refine goesL_ (some 26) rfl rfl Try.func28 (by kernel_rfl) rfl #[.slice Ao12 t379.length co12] rfl (by (try simp only [List.map_toArray, List.map_cons, List.map_nil]); first | done | rfl | (simp only [List.length_drop, List.length_take]; rfl)) ?_; (with_reducible refine (impl_OnesOf.calls k _ _ t379 t382 t383 _ ?side1 ?side2 A6.out).mono ?_); (case side1 => repeat (first | exact (Kd.R_reads' HO381.out).2.2 | (with_reducible refine Kd.C_alloc ?_ _) | (with_reducible refine Kd.C_drewN ?_ _) | (with_reducible refine Kd.C_drew ?_))); (case side2 => exact (Kd.R_reads' HO381.out).2.1); rintro e w13 ⟨v384, rfl, ho0, hb⟩; refine ⟨_, rfl, ?_⟩; have n0_ := Aside0.mk (Kd.R_below (kr_ HO374.out) hb); have n1_ := Aside0.mk (Kd.R_elder' (kr_ HO378.out) (Kd.R_base ho0) hb); have n2_ := Aside0.mk (Kd.R_below (kr_ HO381.out) hb); have n3_ := Aside0.mk (Kd.R_lower (Kd.R_new' ho0 (Kd.R_lt (kr_ HO378.out))) (below_size (bl_ HB.out))); have n4_ := Aside0.mk (below_step (bl_ HB.out) hb); clear HO374; clear HO378; clear HO381; clear HB; have HO374 := n0_; have HO378 := n1_; have HO381 := n2_; have HO385 := n3_; have HB := n4_; clear n0_ n1_ n2_ n3_ n4_; (try clear hb); (try clear hb2); (try clear hk); (try clear hi); (try clear ho0)))
  (try simp only [Act.put, List.setIfInBounds_toArray, List.set_cons_zero, List.set_cons_succ])
  go_cut [37] (fun v37 wc => ∃ (kq : Nat) (x37_6 : Bool), v37 = .bool x37_6 ∧ Aside0 (laws_FnExactOnesOf.j0 kq l0 t375 t376 t379 t382 t383 x37_6 = some r) ∧ Aside0 (kq ≤ k) ∧ Aside0 (Kd.R k59 59 wc w.heap.size (fun k_ => some k_ ≠ (v384 : Value).ownBlock) v377 t375) ∧ Aside0 (Kd.R (Kd.int .i64) 3 wc w.heap.size (fun _ => True) (.slice Ao12 t379.length co12) t379) ∧ Aside0 (Kd.R k59 59 wc w.heap.size (fun k_ => some k_ ≠ (v377 : Value).ownBlock) v384 t382) ∧ Aside0 (Below w.heap.size w wc))
  case first =>
   have H := HC7.out; clear HC7; replace H := Option.bind_eq_some_iff.mp H; obtain ⟨t386, A140, H⟩ := H; replace H : (if t386 = true then (laws_FnExactOnesOf.j0 k l0 t375 t376 t379 t382 t383 (t383 != t376)) else (laws_FnExactOnesOf.j0 k l0 t375 t376 t379 t382 t383 true)) = some r := H
   have A14 := Aside0.mk A140; clear A140
   by_cases c15 : t386 = true
   ·subst c15
    have H1 : (laws_FnExactOnesOf.j0 k l0 t375 t376 t379 t382 t383 (t383 != t376)) = some r := by rw [if_pos rfl] at H; exact H
    clear H; have H := H1; clear H1; have H' := Aside0.mk H; clear H; obtain ⟨Ao16, co16, eo16⟩ := Kd.R_slice HO385.out; subst eo16; obtain ⟨Ao17, co17, eo17⟩ := Kd.R_slice HO378.out; subst eo17
    go_wp2_with (first | ((with_reducible refine gate_callee (f := 29) rfl ?_); refine goesL_ (some 31) rfl rfl Try.func29 (by kernel_rfl) rfl #[.slice Ao16 t382.length co16, .slice Ao17 t375.length co17] rfl (by (try simp only [List.map_toArray, List.map_cons, List.map_nil]); first | done | rfl | (simp only [List.length_drop, List.length_take]; rfl)) ?_; (with_reducible refine (laws_eqDiagonalS.calls k _ _ t382 _ _ t375 true _ ?side1 ?side2 ?side3 ?side4 A14.out).mono ?_); (case side1 => repeat (first | exact (Kd.R_reads' HO385.out).2.2 | (with_reducible refine Kd.C_alloc ?_ _) | (with_reducible refine Kd.C_drewN ?_ _) | (with_reducible refine Kd.C_drew ?_))); (case side2 => exact (Kd.R_reads' HO385.out).2.1); (case side3 => repeat (first | exact (Kd.R_reads' HO378.out).2.2 | (with_reducible refine Kd.C_alloc ?_ _) | (with_reducible refine Kd.C_drewN ?_ _) | (with_reducible refine Kd.C_drew ?_))); (case side4 => exact (Kd.R_reads' HO378.out).2.1); rintro e w18 ⟨rfl, hb⟩; refine ⟨_, rfl, ?_⟩; have n0_ := Aside0.mk (Kd.R_below (kr_ HO374.out) hb); have n1_ := Aside0.mk (Kd.R_below (kr_ HO378.out) hb); have n2_ := Aside0.mk (Kd.R_below (kr_ HO381.out) hb); have n3_ := Aside0.mk (Kd.R_below (kr_ HO385.out) hb); have n4_ := Aside0.mk (below_step (bl_ HB.out) hb); clear HO374; clear HO378; clear HO381; clear HO385; clear HB; have HO374 := n0_; have HO378 := n1_; have HO381 := n2_; have HO385 := n3_; have HB := n4_; clear n0_ n1_ n2_ n3_ n4_; (try clear hb); (try clear hb2); (try clear hk); (try clear hi)))
    go_meet
    case rel => exact ⟨_, ((t383 != t376)), (fs_), H', ⟨by first | omega | exact Nat.le_refl _⟩, ⟨by (with_reducible repeat (first | apply Kd.R_alloc | apply Kd.R_drewN | apply Kd.R_drew)); exact Kd.R_mono HO378.out (fun _ hk => hk.2)⟩, ⟨by (with_reducible repeat (first | apply Kd.R_alloc | apply Kd.R_drewN | apply Kd.R_drew)); exact Kd.R_mono HO381.out (fun _ hk => trivial)⟩, ⟨by (with_reducible repeat (first | apply Kd.R_alloc | apply Kd.R_drewN | apply Kd.R_drew)); exact Kd.R_mono HO385.out (fun _ hk => hk.2)⟩, ⟨bl_ HB.out⟩⟩
   ·replace c15 := Bool.eq_false_iff.mpr c15
    subst c15; have H1 : (laws_FnExactOnesOf.j0 k l0 t375 t376 t379 t382 t383 true) = some r := by rw [if_neg (show ¬ (false = true) by decide)] at H; exact H
    clear H; have H := H1; clear H1; have H' := Aside0.mk H; clear H; obtain ⟨Ao19, co19, eo19⟩ := Kd.R_slice HO385.out; subst eo19; obtain ⟨Ao20, co20, eo20⟩ := Kd.R_slice HO378.out; subst eo20
    go_wp2_with (first | ((with_reducible refine gate_callee (f := 29) rfl ?_); refine goesL_ (some 31) rfl rfl Try.func29 (by kernel_rfl) rfl #[.slice Ao19 t382.length co19, .slice Ao20 t375.length co20] rfl (by (try simp only [List.map_toArray, List.map_cons, List.map_nil]); first | done | rfl | (simp only [List.length_drop, List.length_take]; rfl)) ?_; (with_reducible refine (laws_eqDiagonalS.calls k _ _ t382 _ _ t375 false _ ?side1 ?side2 ?side3 ?side4 A14.out).mono ?_); (case side1 => repeat (first | exact (Kd.R_reads' HO385.out).2.2 | (with_reducible refine Kd.C_alloc ?_ _) | (with_reducible refine Kd.C_drewN ?_ _) | (with_reducible refine Kd.C_drew ?_))); (case side2 => exact (Kd.R_reads' HO385.out).2.1); (case side3 => repeat (first | exact (Kd.R_reads' HO378.out).2.2 | (with_reducible refine Kd.C_alloc ?_ _) | (with_reducible refine Kd.C_drewN ?_ _) | (with_reducible refine Kd.C_drew ?_))); (case side4 => exact (Kd.R_reads' HO378.out).2.1); rintro e w21 ⟨rfl, hb⟩; refine ⟨_, rfl, ?_⟩; have n0_ := Aside0.mk (Kd.R_below (kr_ HO374.out) hb); have n1_ := Aside0.mk (Kd.R_below (kr_ HO378.out) hb); have n2_ := Aside0.mk (Kd.R_below (kr_ HO381.out) hb); have n3_ := Aside0.mk (Kd.R_below (kr_ HO385.out) hb); have n4_ := Aside0.mk (below_step (bl_ HB.out) hb); clear HO374; clear HO378; clear HO381; clear HO385; clear HB; have HO374 := n0_; have HO378 := n1_; have HO381 := n2_; have HO385 := n3_; have HB := n4_; clear n0_ n1_ n2_ n3_ n4_; (try clear hb); (try clear hb2); (try clear hk); (try clear hi)))
    go_meet
    case rel => exact ⟨_, (true), (fs_), H', ⟨by first | omega | exact Nat.le_refl _⟩, ⟨by (with_reducible repeat (first | apply Kd.R_alloc | apply Kd.R_drewN | apply Kd.R_drew)); exact Kd.R_mono HO378.out (fun _ hk => hk.2)⟩, ⟨by (with_reducible repeat (first | apply Kd.R_alloc | apply Kd.R_drewN | apply Kd.R_drew)); exact Kd.R_mono HO381.out (fun _ hk => trivial)⟩, ⟨by (with_reducible repeat (first | apply Kd.R_alloc | apply Kd.R_drewN | apply Kd.R_drew)); exact Kd.R_mono HO385.out (fun _ hk => hk.2)⟩, ⟨bl_ HB.out⟩⟩
  case rest =>
   clear HC7
   try clear c1
   try clear c2
   try clear c2b0
   try clear c2b1
   try clear p2
   try clear c7
   try clear c13
   try clear c15
   obtain ⟨kq, x37_6, rfl, HA, HJ6, HO_3, HO_5, HO_6, HB⟩ := hcut
   cases kq with
   | zero => exact absurd HA.out (by simp [laws_FnExactOnesOf.j0])
   | succ kj6 =>
    have H := HA.out; clear HA
    simp only [laws_FnExactOnesOf.j0] at H
    by_cases c22 : x37_6 = true
    ·subst c22
     have H1 : (none) = some r := by rw [if_pos rfl] at H; exact H
     clear H; have H := H1; clear H1; exact absurd H (by simp)
    ·replace c22 := Bool.eq_false_iff.mpr c22
     subst c22; have H1 : ((laws_toIntS.f kj6 l0).bind fun t387 => ((laws_eqIntS.f kj6 t379 t387).bind fun t390 => (if t390 = true then ((laws_markIntS.f kj6 t379 1).bind fun bt391 => (if bt391.1 < 0 then (laws_FnExactOnesOf.j1 kj6 l0 t375 t376 t382 true) else ((laws_eqDiagonalS.f kj6 t382 t375).bind fun t393 => (if t393 = true then (laws_FnExactOnesOf.j1 kj6 l0 t375 t376 t382 (t383 != t376)) else (laws_FnExactOnesOf.j1 kj6 l0 t375 t376 t382 true))))) else (none)))) = some r := by rw [if_neg (show ¬ (false = true) by decide)] at H; exact H
     clear H; have H := H1; clear H1; replace H := Option.bind_eq_some_iff.mp H; obtain ⟨t387, A230, H⟩ := H; replace H : ((laws_eqIntS.f kj6 t379 t387).bind fun t390 => (if t390 = true then ((laws_markIntS.f kj6 t379 1).bind fun bt391 => (if bt391.1 < 0 then (laws_FnExactOnesOf.j1 kj6 l0 t375 t376 t382 true) else ((laws_eqDiagonalS.f kj6 t382 t375).bind fun t393 => (if t393 = true then (laws_FnExactOnesOf.j1 kj6 l0 t375 t376 t382 (t383 != t376)) else (laws_FnExactOnesOf.j1 kj6 l0 t375 t376 t382 true))))) else (none))) = some r := H
     have A23 := Aside0.mk A230; clear A230; replace H := Option.bind_eq_some_iff.mp H; obtain ⟨t390, A240, H⟩ := H; replace H : (if t390 = true then ((laws_markIntS.f kj6 t379 1).bind fun bt391 => (if bt391.1 < 0 then (laws_FnExactOnesOf.j1 kj6 l0 t375 t376 t382 true) else ((laws_eqDiagonalS.f kj6 t382 t375).bind fun t393 => (if t393 = true then (laws_FnExactOnesOf.j1 kj6 l0 t375 t376 t382 (t383 != t376)) else (laws_FnExactOnesOf.j1 kj6 l0 t375 t376 t382 true))))) else (none)) = some r := H
     have A24 := Aside0.mk A240; clear A240
     by_cases c25 : t390 = true
     ·subst c25
      have H1 : ((laws_markIntS.f kj6 t379 1).bind fun bt391 => (if bt391.1 < 0 then (laws_FnExactOnesOf.j1 kj6 l0 t375 t376 t382 true) else ((laws_eqDiagonalS.f kj6 t382 t375).bind fun t393 => (if t393 = true then (laws_FnExactOnesOf.j1 kj6 l0 t375 t376 t382 (t383 != t376)) else (laws_FnExactOnesOf.j1 kj6 l0 t375 t376 t382 true))))) = some r := by rw [if_pos rfl] at H; exact H
      clear H; have H := H1; clear H1; replace H := Option.bind_eq_some_iff.mp H; obtain ⟨⟨t391, t392⟩, A260, H⟩ := H; replace H : (if t391 < 0 then (laws_FnExactOnesOf.j1 kj6 l0 t375 t376 t382 true) else ((laws_eqDiagonalS.f kj6 t382 t375).bind fun t393 => (if t393 = true then (laws_FnExactOnesOf.j1 kj6 l0 t375 t376 t382 (t383 != t376)) else (laws_FnExactOnesOf.j1 kj6 l0 t375 t376 t382 true)))) = some r := H
      have A26 := Aside0.mk A260; clear A260; have HC27 := Aside0.mk H; clear H
      go_upto_region 12 with (first | ((with_reducible refine gate_callee (f := 13) rfl ?_); refine goesL_ (some 40) rfl rfl Try.func13 (by kernel_rfl) rfl #[.slice A0 l0.length c0] rfl (by (try simp only [List.map_toArray, List.map_cons, List.map_nil]); first | done | rfl | (simp only [List.length_drop, List.length_take]; rfl)) ?_; (with_reducible refine (laws_toIntS.calls kj6 _ _ l0 t387 _ ?side1 ?side2 A23.out).mono ?_); (case side1 => repeat (first | exact (Kd.C_below HR0.out HB.out) | (with_reducible refine Kd.C_alloc ?_ _) | (with_reducible refine Kd.C_drewN ?_ _) | (with_reducible refine Kd.C_drew ?_))); (case side2 => exact HC0.out); rintro e w28 ⟨v388, rfl, ho0, hb⟩; refine ⟨_, rfl, ?_⟩; have n0_ := Aside0.mk (Kd.R_below (kr_ HO_3.out) hb); have n1_ := Aside0.mk (Kd.R_elder' (kr_ HO_5.out) (Kd.R_base ho0) hb); have n2_ := Aside0.mk (Kd.R_below (kr_ HO_6.out) hb); have n3_ := Aside0.mk (Kd.R_lower (Kd.R_new' ho0 (Kd.R_lt (kr_ HO_5.out))) (below_size (bl_ HB.out))); have n4_ := Aside0.mk (below_step (bl_ HB.out) hb); clear HO_3; clear HO_5; clear HO_6; clear HB; have HO_3 := n0_; have HO_5 := n1_; have HO_6 := n2_; have HO389 := n3_; have HB := n4_; clear n0_ n1_ n2_ n3_ n4_; (try clear hb); (try clear hb2); (try clear hk); (try clear hi); (try clear ho0); obtain ⟨Ao29, co29, eo29⟩ := Kd.R_slice HO389.out; subst eo29) | ((with_reducible refine gate_callee (f := 15) rfl ?_); refine goesL_ (some 41) rfl rfl Try.func15 (by kernel_rfl) rfl #[.slice Ao12 t379.length co12, .slice Ao29 t387.length co29] rfl (by (try simp only [List.map_toArray, List.map_cons, List.map_nil]); first | done | rfl | (simp only [List.length_drop, List.length_take]; rfl)) ?_; (with_reducible refine (laws_eqIntS.calls kj6 _ _ t379 _ _ t387 true _ ?side1 ?side2 ?side3 ?side4 A24.out).mono ?_); (case side1 => repeat (first | exact (Kd.R_reads' HO_5.out).2.2 | (with_reducible refine Kd.C_alloc ?_ _) | (with_reducible refine Kd.C_drewN ?_ _) | (with_reducible refine Kd.C_drew ?_))); (case side2 => exact (Kd.R_reads' HO_5.out).2.1); (case side3 => repeat (first | exact (Kd.R_reads' HO389.out).2.2 | (with_reducible refine Kd.C_alloc ?_ _) | (with_reducible refine Kd.C_drewN ?_ _) | (with_reducible refine Kd.C_drew ?_))); (case side4 => exact (Kd.R_reads' HO389.out).2.1); rintro e w' ⟨rfl, ⟨nd, rfl⟩⟩; refine ⟨_, rfl, ?_⟩) | ((with_reducible refine gate_callee (f := 19) rfl ?_); refine goesL_ (some 45) rfl rfl Try.func19 (by kernel_rfl) rfl #[.slice Ao12 t379.length co12, .int .i64 1] rfl (by (try simp only [List.map_toArray, List.map_cons, List.map_nil]); first | done | rfl | (simp only [List.length_drop, List.length_take]; rfl)) ?_; (with_reducible refine (laws_markIntS.calls kj6 (fun k_ => some k_ = (.slice Ao12 t379.length co12 : Value).ownBlock) (.slice Ao12 t379.length co12) t379 1 t391 t392 w _ ?side1 ?side2 A26.out).mono ?_); (case side1 => repeat (first | (with_reducible first | exact HB.out | apply below_alloc | apply pw_below_drewN | apply below_drew1) | exact HB.out)); (case side2 => exact Kd.R_tight rfl HO_5.out); rintro e w30 ⟨rfl, hy0, hb, hkp⟩; refine ⟨_, rfl, ?_⟩; have n0_ := Aside0.mk (Kd.R_mono (ok' := fun k_ => some k_ ≠ (v384 : Value).ownBlock) (Kd.R_keptB ((Kd.R_apart' HO_3.out (Kd.R_typed HO_5.out) (by decide))) hkp (fun k_ hk_ hs_ => (hk_.2) hs_)) (fun k_ hk_ => hk_.1.1)); have n1_ := Aside0.mk (Kd.R_reok rfl hy0 (fun k_ e_ => HO_5.out.1 k_ e_)); have n2_ := Aside0.mk (Kd.R_mono (ok' := fun k_ => some k_ ≠ (v377 : Value).ownBlock) (Kd.R_keptB ((Kd.R_apart' HO_6.out (Kd.R_typed HO_5.out) (by decide))) hkp (fun k_ hk_ hs_ => (hk_.2) hs_)) (fun k_ hk_ => hk_.1.1)); have n3_ := Aside0.mk (Kd.R_mono (ok' := fun k_ => some k_ ≠ (.slice Ao12 t379.length co12 : Value).ownBlock) (Kd.R_keptB (HO389.out) hkp (fun k_ hk_ hs_ => (hk_.2) hs_)) (fun k_ hk_ => hk_.1.2)); have n4_ := Aside0.mk (hb); clear HO_3; clear HO_5; clear HO_6; clear HO389; clear HB; have HO_3 := n0_; have HO_5 := n1_; have HO_6 := n2_; have HO389 := n3_; have HB := n4_; clear n0_ n1_ n2_ n3_ n4_; (try clear hb); (try clear hkp); (try clear hy0)))
      (try simp only [Act.put, List.setIfInBounds_toArray, List.set_cons_zero, List.set_cons_succ])
      go_cut [58] (fun v58 wc => ∃ (kq : Nat) (x58_26 : Bool), v58 = .bool x58_26 ∧ Aside0 (laws_FnExactOnesOf.j1 kq l0 t375 t376 t382 x58_26 = some r) ∧ Aside0 (kq ≤ kj6) ∧ Aside0 (Kd.R k59 59 wc w.heap.size (fun k_ => some k_ ≠ (v384 : Value).ownBlock) v377 t375) ∧ Aside0 (Kd.R k59 59 wc w.heap.size (fun k_ => some k_ ≠ (v377 : Value).ownBlock) v384 t382) ∧ Aside0 (Below w.heap.size w wc))
      case first =>
       have H := HC27.out; clear HC27
       by_cases c31 : t391 < 0
       ·rw [if_pos c31] at H
        have c31b0 : decide (t391 < 0) = true := decide_eq_true c31; clear c31
        (first | rw [c31b0] | (simp only [i64_w, i32_w]; rw [c31b0]) | skip)
        have H' := Aside0.mk H; clear H
        go_wp2
        go_meet
        case rel => exact ⟨_, (true), (fs_), H', ⟨by have := HJ6.out; first | omega | exact Nat.le_refl _⟩, ⟨kr_ HO_3.out⟩, ⟨kr_ HO_6.out⟩, ⟨bl_ HB.out⟩⟩
       ·rw [if_neg c31] at H
        have c31b0 : decide (t391 < 0) = false := decide_eq_false c31; clear c31
        (first | rw [c31b0] | (simp only [i64_w, i32_w]; rw [c31b0]) | skip)
        replace H := Option.bind_eq_some_iff.mp H; obtain ⟨t393, A320, H⟩ := H; replace H : (if t393 = true then (laws_FnExactOnesOf.j1 kj6 l0 t375 t376 t382 (t383 != t376)) else (laws_FnExactOnesOf.j1 kj6 l0 t375 t376 t382 true)) = some r := H
        have A32 := Aside0.mk A320; clear A320
        by_cases c33 : t393 = true
        ·subst c33
         have H1 : (laws_FnExactOnesOf.j1 kj6 l0 t375 t376 t382 (t383 != t376)) = some r := by rw [if_pos rfl] at H; exact H
         clear H; have H := H1; clear H1; have H' := Aside0.mk H; clear H; obtain ⟨Ao34, co34, eo34⟩ := Kd.R_slice HO_6.out; subst eo34; obtain ⟨Ao35, co35, eo35⟩ := Kd.R_slice HO_3.out; subst eo35
         go_wp2_with (first | (go_at_call 29; (with_reducible refine (laws_eqDiagonalS.calls kj6 _ _ t382 _ _ t375 true _ ?side1 ?side2 ?side3 ?side4 A32.out).mono ?_); (case side1 => repeat (first | exact (Kd.R_reads' HO_6.out).2.2 | (with_reducible refine Kd.C_alloc ?_ _) | (with_reducible refine Kd.C_drewN ?_ _) | (with_reducible refine Kd.C_drew ?_))); (case side2 => exact (Kd.R_reads' HO_6.out).2.1); (case side3 => repeat (first | exact (Kd.R_reads' HO_3.out).2.2 | (with_reducible refine Kd.C_alloc ?_ _) | (with_reducible refine Kd.C_drewN ?_ _) | (with_reducible refine Kd.C_drew ?_))); (case side4 => exact (Kd.R_reads' HO_3.out).2.1); rintro e w36 ⟨rfl, hb⟩; have n0_ := Aside0.mk (Kd.R_below (kr_ HO_3.out) hb); have n1_ := Aside0.mk (Kd.R_below (kr_ HO_5.out) hb); have n2_ := Aside0.mk (Kd.R_below (kr_ HO_6.out) hb); have n3_ := Aside0.mk (Kd.R_below (kr_ HO389.out) hb); have n4_ := Aside0.mk (below_step (bl_ HB.out) hb); clear HO_3; clear HO_5; clear HO_6; clear HO389; clear HB; have HO_3 := n0_; have HO_5 := n1_; have HO_6 := n2_; have HO389 := n3_; have HB := n4_; clear n0_ n1_ n2_ n3_ n4_; (try clear hb); (try clear hb2); (try clear hk); (try clear hi)))
         go_meet
         case rel => exact ⟨_, ((t383 != t376)), (fs_), H', ⟨by have := HJ6.out; first | omega | exact Nat.le_refl _⟩, ⟨kr_ HO_3.out⟩, ⟨kr_ HO_6.out⟩, ⟨bl_ HB.out⟩⟩
        ·replace c33 := Bool.eq_false_iff.mpr c33
         subst c33; have H1 : (laws_FnExactOnesOf.j1 kj6 l0 t375 t376 t382 true) = some r := by rw [if_neg (show ¬ (false = true) by decide)] at H; exact H
         clear H; have H := H1; clear H1; have H' := Aside0.mk H; clear H; obtain ⟨Ao37, co37, eo37⟩ := Kd.R_slice HO_6.out; subst eo37; obtain ⟨Ao38, co38, eo38⟩ := Kd.R_slice HO_3.out; subst eo38
         go_wp2_with (first | (go_at_call 29; (with_reducible refine (laws_eqDiagonalS.calls kj6 _ _ t382 _ _ t375 false _ ?side1 ?side2 ?side3 ?side4 A32.out).mono ?_); (case side1 => repeat (first | exact (Kd.R_reads' HO_6.out).2.2 | (with_reducible refine Kd.C_alloc ?_ _) | (with_reducible refine Kd.C_drewN ?_ _) | (with_reducible refine Kd.C_drew ?_))); (case side2 => exact (Kd.R_reads' HO_6.out).2.1); (case side3 => repeat (first | exact (Kd.R_reads' HO_3.out).2.2 | (with_reducible refine Kd.C_alloc ?_ _) | (with_reducible refine Kd.C_drewN ?_ _) | (with_reducible refine Kd.C_drew ?_))); (case side4 => exact (Kd.R_reads' HO_3.out).2.1); rintro e w39 ⟨rfl, hb⟩; have n0_ := Aside0.mk (Kd.R_below (kr_ HO_3.out) hb); have n1_ := Aside0.mk (Kd.R_below (kr_ HO_5.out) hb); have n2_ := Aside0.mk (Kd.R_below (kr_ HO_6.out) hb); have n3_ := Aside0.mk (Kd.R_below (kr_ HO389.out) hb); have n4_ := Aside0.mk (below_step (bl_ HB.out) hb); clear HO_3; clear HO_5; clear HO_6; clear HO389; clear HB; have HO_3 := n0_; have HO_5 := n1_; have HO_6 := n2_; have HO389 := n3_; have HB := n4_; clear n0_ n1_ n2_ n3_ n4_; (try clear hb); (try clear hb2); (try clear hk); (try clear hi)))
         go_meet
         case rel => exact ⟨_, (true), (fs_), H', ⟨by have := HJ6.out; first | omega | exact Nat.le_refl _⟩, ⟨kr_ HO_3.out⟩, ⟨kr_ HO_6.out⟩, ⟨bl_ HB.out⟩⟩
      case rest =>
       clear HC27
       try clear c1
       try clear c2
       try clear c2b0
       try clear c2b1
       try clear p2
       try clear c3
       try clear c7
       try clear c13
       try clear c15
       try clear c19
       try clear c22
       try clear c25
       try clear c27
       try clear c28
       try clear c29
       try clear c31
       try clear c31b0
       try clear c33
       try clear p2
       obtain ⟨kq, x58_26, rfl, HA, HJ26, HO_3, HO_6, HB⟩ := hcut
       cases kq with
       | zero => exact absurd HA.out (by simp [laws_FnExactOnesOf.j1])
       | succ kj26 =>
        have H := HA.out; clear HA
        simp only [laws_FnExactOnesOf.j1] at H
        by_cases c40 : x58_26 = true
        ·subst c40
         have H1 : (none) = some r := by rw [if_pos rfl] at H; exact H
         clear H; have H := H1; clear H1; exact absurd H (by simp)
        ·replace c40 := Bool.eq_false_iff.mpr c40
         subst c40; have H1 : ((laws_markDiagonalS.f kj26 t382 1).bind fun bt394 => ((laws_heldDiagonalS.f kj26 bt394.2 1).bind fun t396 => (if t396 < 0 then (none) else (if t396 = bt394.1 then ((laws_toIntS.f kj26 l0).bind fun t397 => ((impl_OnesOf.f kj26 t397).bind fun bt400 => ((laws_eqDiagonalS.f kj26 bt400.1 t375).bind fun t404 => (if t404 = true then (laws_FnExactOnesOf.j2 kj26 bt394.2 bt394.1 (bt400.2 != t376)) else (laws_FnExactOnesOf.j2 kj26 bt394.2 bt394.1 true))))) else (none))))) = some r := by rw [if_neg (show ¬ (false = true) by decide)] at H; exact H
         clear H; have H := H1; clear H1; replace H := Option.bind_eq_some_iff.mp H; obtain ⟨⟨t394, t395⟩, A410, H⟩ := H; replace H : ((laws_heldDiagonalS.f kj26 t395 1).bind fun t396 => (if t396 < 0 then (none) else (if t396 = t394 then ((laws_toIntS.f kj26 l0).bind fun t397 => ((impl_OnesOf.f kj26 t397).bind fun bt400 => ((laws_eqDiagonalS.f kj26 bt400.1 t375).bind fun t404 => (if t404 = true then (laws_FnExactOnesOf.j2 kj26 t395 t394 (bt400.2 != t376)) else (laws_FnExactOnesOf.j2 kj26 t395 t394 true))))) else (none)))) = some r := H
         have A41 := Aside0.mk A410; clear A410; replace H := Option.bind_eq_some_iff.mp H; obtain ⟨t396, A420, H⟩ := H; replace H : (if t396 < 0 then (none) else (if t396 = t394 then ((laws_toIntS.f kj26 l0).bind fun t397 => ((impl_OnesOf.f kj26 t397).bind fun bt400 => ((laws_eqDiagonalS.f kj26 bt400.1 t375).bind fun t404 => (if t404 = true then (laws_FnExactOnesOf.j2 kj26 t395 t394 (bt400.2 != t376)) else (laws_FnExactOnesOf.j2 kj26 t395 t394 true))))) else (none))) = some r := H
         have A42 := Aside0.mk A420; clear A420
         by_cases c43 : t396 < 0
         ·rw [if_pos c43] at H
          exact absurd H (by simp)
         ·rw [if_neg c43] at H
          have c43b0 : decide (t396 < 0) = false := decide_eq_false c43; clear c43
          by_cases c44 : t396 = t394
          ·rw [if_pos c44] at H
           have c44b0 : (t396 == t394) = true := beq_iff_eq.mpr c44; have c44b1 : (t396 != t394) = false := bne_eq_false_iff_eq.mpr c44; clear c44; replace H := Option.bind_eq_some_iff.mp H; obtain ⟨t397, A450, H⟩ := H; replace H : ((impl_OnesOf.f kj26 t397).bind fun bt400 => ((laws_eqDiagonalS.f kj26 bt400.1 t375).bind fun t404 => (if t404 = true then (laws_FnExactOnesOf.j2 kj26 t395 t394 (bt400.2 != t376)) else (laws_FnExactOnesOf.j2 kj26 t395 t394 true)))) = some r := H
           have A45 := Aside0.mk A450; clear A450; replace H := Option.bind_eq_some_iff.mp H; obtain ⟨⟨t400, t401⟩, A460, H⟩ := H; replace H : ((laws_eqDiagonalS.f kj26 t400 t375).bind fun t404 => (if t404 = true then (laws_FnExactOnesOf.j2 kj26 t395 t394 (t401 != t376)) else (laws_FnExactOnesOf.j2 kj26 t395 t394 true))) = some r := H
           have A46 := Aside0.mk A460; clear A460; have HC47 := Aside0.mk H; clear H; obtain ⟨Ao48, co48, eo48⟩ := Kd.R_slice HO_6.out; subst eo48
           go_upto_region 23 with (first | ((with_reducible refine gate_callee (f := 30) rfl ?_); refine goesL_ (some 61) rfl rfl Try.func30 (by kernel_rfl) rfl #[.slice Ao48 t382.length co48, .int .i64 1] rfl (by (try simp only [List.map_toArray, List.map_cons, List.map_nil]); first | done | rfl | (simp only [List.length_drop, List.length_take]; rfl)) ?_; (with_reducible refine (laws_markDiagonalS.calls kj26 (fun k_ => some k_ = (.slice Ao48 t382.length co48 : Value).ownBlock) (.slice Ao48 t382.length co48) t382 1 t394 t395 w _ ?side1 ?side2 A41.out).mono ?_); (case side1 => repeat (first | (with_reducible first | exact HB.out | apply below_alloc | apply pw_below_drewN | apply below_drew1) | exact HB.out)); (case side2 => exact Kd.R_tight rfl HO_6.out); rintro e w49 ⟨rfl, hy0, hb, hkp⟩; refine ⟨_, rfl, ?_⟩; have n0_ := Aside0.mk (Kd.R_mono (ok' := fun k_ => some k_ ≠ (.slice Ao48 t382.length co48 : Value).ownBlock) (Kd.R_keptB (HO_3.out) hkp (fun k_ hk_ hs_ => (hk_) hs_)) (fun k_ hk_ => hk_.1)); have n1_ := Aside0.mk (Kd.R_reok rfl hy0 (fun k_ e_ => HO_6.out.1 k_ e_)); have n2_ := Aside0.mk (hb); clear HO_3; clear HO_6; clear HB; have HO_3 := n0_; have HO_6 := n1_; have HB := n2_; clear n0_ n1_ n2_; (try clear hb); (try clear hkp); (try clear hy0)) | ((with_reducible refine gate_callee (f := 31) rfl ?_); refine goesL_ (some 64) rfl rfl Try.func31 (by kernel_rfl) rfl #[.slice Ao48 t395.length co48, .int .i64 1] rfl (by (try simp only [List.map_toArray, List.map_cons, List.map_nil]); first | done | (rw [show t395.length = t382.length from (Kd.R_reads' HO_6.out).1.symm] <;> rfl) | rfl | (simp only [List.length_drop, List.length_take]; rfl)) ?_; (with_reducible refine (laws_heldDiagonalS.calls kj26 _ _ t395 1 t396 _ ?side1 ?side2 A42.out).mono ?_); (case side1 => repeat (first | exact (Kd.R_reads' HO_6.out).2.2 | (with_reducible refine Kd.C_alloc ?_ _) | (with_reducible refine Kd.C_drewN ?_ _) | (with_reducible refine Kd.C_drew ?_))); (case side2 => rw [show t395.length = t382.length from (Kd.R_reads' HO_6.out).1.symm]; exact (Kd.R_reads' HO_6.out).2.1); rintro e w' ⟨rfl, ⟨nd, rfl⟩⟩; refine ⟨_, rfl, ?_⟩) | ((with_reducible refine gate_callee (f := 13) rfl ?_); refine goesL_ (some 72) rfl rfl Try.func13 (by kernel_rfl) rfl #[.slice A0 l0.length c0] rfl (by (try simp only [List.map_toArray, List.map_cons, List.map_nil]); first | done | rfl | (simp only [List.length_drop, List.length_take]; rfl)) ?_; (with_reducible refine (laws_toIntS.calls kj26 _ _ l0 t397 _ ?side1 ?side2 A45.out).mono ?_); (case side1 => repeat (first | exact (Kd.C_below HR0.out (bl_ HB.out)) | (with_reducible refine Kd.C_alloc ?_ _) | (with_reducible refine Kd.C_drewN ?_ _) | (with_reducible refine Kd.C_drew ?_))); (case side2 => exact HC0.out); rintro e w50 ⟨v398, rfl, ho0, hb⟩; refine ⟨_, rfl, ?_⟩; have n0_ := Aside0.mk (Kd.R_below (kr_ HO_3.out) hb); have n1_ := Aside0.mk (Kd.R_below (kr_ HO_6.out) hb); have n2_ := Aside0.mk (Kd.R_lower ho0 (below_size (bl_ HB.out))); have n3_ := Aside0.mk (below_step (bl_ HB.out) hb); clear HO_3; clear HO_6; clear HB; have HO_3 := n0_; have HO_6 := n1_; have HO399 := n2_; have HB := n3_; clear n0_ n1_ n2_ n3_; (try clear hb); (try clear hb2); (try clear hk); (try clear hi); (try clear ho0); obtain ⟨Ao51, co51, eo51⟩ := Kd.R_slice HO399.out; subst eo51) | ((with_reducible refine gate_callee (f := 28) rfl ?_); refine goesL_ (some 73) rfl rfl Try.func28 (by kernel_rfl) rfl #[.slice Ao51 t397.length co51] rfl (by (try simp only [List.map_toArray, List.map_cons, List.map_nil]); first | done | rfl | (simp only [List.length_drop, List.length_take]; rfl)) ?_; (with_reducible refine (impl_OnesOf.calls kj26 _ _ t397 t400 t401 _ ?side1 ?side2 A46.out).mono ?_); (case side1 => repeat (first | exact (Kd.R_reads' HO399.out).2.2 | (with_reducible refine Kd.C_alloc ?_ _) | (with_reducible refine Kd.C_drewN ?_ _) | (with_reducible refine Kd.C_drew ?_))); (case side2 => exact (Kd.R_reads' HO399.out).2.1); rintro e w52 ⟨v402, rfl, ho0, hb⟩; refine ⟨_, rfl, ?_⟩; have n0_ := Aside0.mk (Kd.R_elder' (kr_ HO_3.out) (Kd.R_base ho0) hb); have n1_ := Aside0.mk (Kd.R_elder' (kr_ HO_6.out) (Kd.R_base ho0) hb); have n2_ := Aside0.mk (Kd.R_below (kr_ HO399.out) hb); have n3_ := Aside0.mk (Kd.R_lower (Kd.R_new' (Kd.R_new' ho0 (Kd.R_lt (kr_ HO_3.out))) (Kd.R_lt (kr_ HO_6.out))) (below_size (bl_ HB.out))); have n4_ := Aside0.mk (below_step (bl_ HB.out) hb); clear HO_3; clear HO_6; clear HO399; clear HB; have HO_3 := n0_; have HO_6 := n1_; have HO399 := n2_; have HO403 := n3_; have HB := n4_; clear n0_ n1_ n2_ n3_ n4_; (try clear hb); (try clear hb2); (try clear hk); (try clear hi); (try clear ho0)))
           (try simp only [Act.put, List.setIfInBounds_toArray, List.set_cons_zero, List.set_cons_succ])
           go_cut [84] (fun v84 wc => ∃ (kq : Nat) (x84_46 : Bool), v84 = .bool x84_46 ∧ Aside0 (laws_FnExactOnesOf.j2 kq t395 t394 x84_46 = some r) ∧ Aside0 (kq ≤ kj26) ∧ Aside0 (Kd.R k59 59 wc w.heap.size (fun _ => True) (.slice Ao48 t382.length co48) t395) ∧ Aside0 (Below w.heap.size w wc))
           case first =>
            have H := HC47.out; clear HC47; replace H := Option.bind_eq_some_iff.mp H; obtain ⟨t404, A530, H⟩ := H; replace H : (if t404 = true then (laws_FnExactOnesOf.j2 kj26 t395 t394 (t401 != t376)) else (laws_FnExactOnesOf.j2 kj26 t395 t394 true)) = some r := H
            have A53 := Aside0.mk A530; clear A530
            by_cases c54 : t404 = true
            ·subst c54
             have H1 : (laws_FnExactOnesOf.j2 kj26 t395 t394 (t401 != t376)) = some r := by rw [if_pos rfl] at H; exact H
             clear H; have H := H1; clear H1; have H' := Aside0.mk H; clear H; obtain ⟨Ao55, co55, eo55⟩ := Kd.R_slice HO403.out; subst eo55; obtain ⟨Ao56, co56, eo56⟩ := Kd.R_slice HO_3.out; subst eo56
             go_wp2_with (first | ((with_reducible refine gate_callee (f := 29) rfl ?_); refine goesL_ (some 78) rfl rfl Try.func29 (by kernel_rfl) rfl #[.slice Ao55 t400.length co55, .slice Ao56 t375.length co56] rfl (by (try simp only [List.map_toArray, List.map_cons, List.map_nil]); first | done | rfl | (simp only [List.length_drop, List.length_take]; rfl)) ?_; (with_reducible refine (laws_eqDiagonalS.calls kj26 _ _ t400 _ _ t375 true _ ?side1 ?side2 ?side3 ?side4 A53.out).mono ?_); (case side1 => repeat (first | exact (Kd.R_reads' HO403.out).2.2 | (with_reducible refine Kd.C_alloc ?_ _) | (with_reducible refine Kd.C_drewN ?_ _) | (with_reducible refine Kd.C_drew ?_))); (case side2 => exact (Kd.R_reads' HO403.out).2.1); (case side3 => repeat (first | exact (Kd.R_reads' HO_3.out).2.2 | (with_reducible refine Kd.C_alloc ?_ _) | (with_reducible refine Kd.C_drewN ?_ _) | (with_reducible refine Kd.C_drew ?_))); (case side4 => exact (Kd.R_reads' HO_3.out).2.1); rintro e w57 ⟨rfl, hb⟩; refine ⟨_, rfl, ?_⟩; have n0_ := Aside0.mk (Kd.R_below (kr_ HO_3.out) hb); have n1_ := Aside0.mk (Kd.R_below (kr_ HO_6.out) hb); have n2_ := Aside0.mk (Kd.R_below (kr_ HO399.out) hb); have n3_ := Aside0.mk (Kd.R_below (kr_ HO403.out) hb); have n4_ := Aside0.mk (below_step (bl_ HB.out) hb); clear HO_3; clear HO_6; clear HO399; clear HO403; clear HB; have HO_3 := n0_; have HO_6 := n1_; have HO399 := n2_; have HO403 := n3_; have HB := n4_; clear n0_ n1_ n2_ n3_ n4_; (try clear hb); (try clear hb2); (try clear hk); (try clear hi)))
             go_meet
             case rel => exact ⟨_, ((t401 != t376)), (fs_), H', ⟨by have := HJ6.out; have := HJ26.out; first | omega | exact Nat.le_refl _⟩, ⟨by (with_reducible repeat (first | apply Kd.R_alloc | apply Kd.R_drewN | apply Kd.R_drew)); exact Kd.R_mono HO_6.out (fun _ hk => trivial)⟩, ⟨bl_ HB.out⟩⟩
            ·replace c54 := Bool.eq_false_iff.mpr c54
             subst c54; have H1 : (laws_FnExactOnesOf.j2 kj26 t395 t394 true) = some r := by rw [if_neg (show ¬ (false = true) by decide)] at H; exact H
             clear H; have H := H1; clear H1; have H' := Aside0.mk H; clear H; obtain ⟨Ao58, co58, eo58⟩ := Kd.R_slice HO403.out; subst eo58; obtain ⟨Ao59, co59, eo59⟩ := Kd.R_slice HO_3.out; subst eo59
             go_wp2_with (first | ((with_reducible refine gate_callee (f := 29) rfl ?_); refine goesL_ (some 78) rfl rfl Try.func29 (by kernel_rfl) rfl #[.slice Ao58 t400.length co58, .slice Ao59 t375.length co59] rfl (by (try simp only [List.map_toArray, List.map_cons, List.map_nil]); first | done | rfl | (simp only [List.length_drop, List.length_take]; rfl)) ?_; (with_reducible refine (laws_eqDiagonalS.calls kj26 _ _ t400 _ _ t375 false _ ?side1 ?side2 ?side3 ?side4 A53.out).mono ?_); (case side1 => repeat (first | exact (Kd.R_reads' HO403.out).2.2 | (with_reducible refine Kd.C_alloc ?_ _) | (with_reducible refine Kd.C_drewN ?_ _) | (with_reducible refine Kd.C_drew ?_))); (case side2 => exact (Kd.R_reads' HO403.out).2.1); (case side3 => repeat (first | exact (Kd.R_reads' HO_3.out).2.2 | (with_reducible refine Kd.C_alloc ?_ _) | (with_reducible refine Kd.C_drewN ?_ _) | (with_reducible refine Kd.C_drew ?_))); (case side4 => exact (Kd.R_reads' HO_3.out).2.1); rintro e w60 ⟨rfl, hb⟩; refine ⟨_, rfl, ?_⟩; have n0_ := Aside0.mk (Kd.R_below (kr_ HO_3.out) hb); have n1_ := Aside0.mk (Kd.R_below (kr_ HO_6.out) hb); have n2_ := Aside0.mk (Kd.R_below (kr_ HO399.out) hb); have n3_ := Aside0.mk (Kd.R_below (kr_ HO403.out) hb); have n4_ := Aside0.mk (below_step (bl_ HB.out) hb); clear HO_3; clear HO_6; clear HO399; clear HO403; clear HB; have HO_3 := n0_; have HO_6 := n1_; have HO399 := n2_; have HO403 := n3_; have HB := n4_; clear n0_ n1_ n2_ n3_ n4_; (try clear hb); (try clear hb2); (try clear hk); (try clear hi)))
             go_meet
             case rel => exact ⟨_, (true), (fs_), H', ⟨by have := HJ6.out; have := HJ26.out; first | omega | exact Nat.le_refl _⟩, ⟨by (with_reducible repeat (first | apply Kd.R_alloc | apply Kd.R_drewN | apply Kd.R_drew)); exact Kd.R_mono HO_6.out (fun _ hk => trivial)⟩, ⟨bl_ HB.out⟩⟩
           case rest =>
            clear HC47
            try clear c1
            try clear c2
            try clear c2b0
            try clear c2b1
            try clear p2
            try clear c3
            try clear c4
            try clear c5
            try clear c7
            try clear c13
            try clear c15
            try clear c19
            try clear c22
            try clear c25
            try clear c27
            try clear c28
            try clear c29
            try clear c30
            try clear c31
            try clear c31b0
            try clear c33
            try clear c40
            try clear c43
            try clear c43b0
            try clear c44
            try clear c44b0
            try clear c44b1
            try clear c54
            try clear p2
            obtain ⟨kq, x84_46, rfl, HA, HJ46, HO_6, HB⟩ := hcut; have hl6_46 := (Kd.R_reads' HO_6.out).1; rw [hl6_46] at HO_6
            (try simp only [hl6_46])
            cases kq with
            | zero => exact absurd HA.out (by simp [laws_FnExactOnesOf.j2])
            | succ kj46 =>
             have H := HA.out; clear HA
             simp only [laws_FnExactOnesOf.j2] at H
             by_cases c61 : x84_46 = true
             ·subst c61
              have H1 : (none) = some r := by rw [if_pos rfl] at H; exact H
              clear H; have H := H1; clear H1; exact absurd H (by simp)
             ·replace c61 := Bool.eq_false_iff.mpr c61
              subst c61; have H1 : ((laws_heldDiagonalS.f kj46 t395 1).bind fun t405 => (if t405 < 0 then (none) else (if t405 = t394 then (some true) else (none)))) = some r := by rw [if_neg (show ¬ (false = true) by decide)] at H; exact H
              clear H; have H := H1; clear H1; replace H := Option.bind_eq_some_iff.mp H; obtain ⟨t405, A620, H⟩ := H; replace H : (if t405 < 0 then (none) else (if t405 = t394 then (some true) else (none))) = some r := H
              have A62 := Aside0.mk A620; clear A620
              by_cases c63 : t405 < 0
              ·rw [if_pos c63] at H
               exact absurd H (by simp)
              ·rw [if_neg c63] at H
               have c63b0 : decide (t405 < 0) = false := decide_eq_false c63; clear c63
               by_cases c64 : t405 = t394
               ·rw [if_pos c64] at H
                have c64b0 : (t405 == t394) = true := beq_iff_eq.mpr c64; have c64b1 : (t405 != t394) = false := bne_eq_false_iff_eq.mpr c64; clear c64; obtain rfl := Option.some.inj H
                go_wp2_with (first | ((with_reducible refine gate_callee (f := 31) rfl ?_); refine goesL_ (some 87) rfl rfl Try.func31 (by kernel_rfl) rfl #[.slice Ao48 t395.length co48, .int .i64 1] rfl (by (try simp only [List.map_toArray, List.map_cons, List.map_nil]); first | done | rfl | (simp only [List.length_drop, List.length_take]; rfl)) ?_; (with_reducible refine (laws_heldDiagonalS.calls kj46 _ _ t395 1 t405 _ ?side1 ?side2 A62.out).mono ?_); (case side1 => repeat (first | exact (Kd.R_reads' HO_6.out).2.2 | (with_reducible refine Kd.C_alloc ?_ _) | (with_reducible refine Kd.C_drewN ?_ _) | (with_reducible refine Kd.C_drew ?_))); (case side2 => exact (Kd.R_reads' HO_6.out).2.1); rintro e w' ⟨rfl, ⟨nd, rfl⟩⟩; refine ⟨_, rfl, ?_⟩))
                go_ret
                exact ⟨by first | rfl | (simp [errW_none, errW_some] <;> rfl) | (simp [*, errW_none, errW_some] <;> rfl), bl_ HB.out⟩
               ·rw [if_neg c64] at H
                exact absurd H (by simp)
          ·rw [if_neg c44] at H
           exact absurd H (by simp)
     ·replace c25 := Bool.eq_false_iff.mpr c25
      subst c25; have H1 : (none) = some r := by rw [if_neg (show ¬ (false = true) by decide)] at H; exact H
      clear H; have H := H1; clear H1; exact absurd H (by simp)
def laws_FnExactOnesOf.Pure : Prop := ∀ (l0 : List Int), l0.length ≤ 9223372036854775807 → (∀ x ∈ l0, (Lit.int .i64 x).wf = true) → ∃ k, laws_FnExactOnesOf.f k l0 = some true
end Go.Proofs.Ytinnmloliknilab.PFnExactOnesOf
