-- Written for this claim by a program of this session (wip/tools/xprint.py over the kit's printer, wip/tools/shrink.py).
import Derived.Test.YtinnmloliknilabPFnExactGlueEarx0
import Derived.Test.YtinnmloliknilabPFnExactGlueEarx4
import Derived.Test.YtinnmloliknilabPFnExactGlueEarx12
import Derived.Test.YtinnmloliknilabPFnExactGlueEarx13
namespace Go.Proofs.Ytinnmloliknilab.PFnExactGlueEar
open Go.RowKit Go.Proofs.YtinnmloliknilabW.PrintWords Go.Proofs.YtinnmloliknilabW.PrintLast Go.Proofs.YtinnmloliknilabW.PrintMore
attribute [local go_sem] max2_int min2_int max_two min_two max_three min_three max_four min_four   -- for this text's walks alone
set_option linter.unusedVariables false
set_option linter.unusedSimpArgs false
mutual
def laws_FnExactGlueEar.j0 : Nat → List Int → Int → List Int → Bool → List Int → List Int → Bool → Bool → Option (Bool)
 | 0, _, _, _, _, _, _, _, _ => none
 | k + 1, x0, x1, x5, x6, x7, x8, x9, x41 => if x41 = true then (none) else ((laws_toIntS.f k x0).bind fun t387 => ((laws_eqIntS.f k x7 t387).bind fun t390 => (if t390 = true then ((laws_markIntS.f k x7 1).bind fun bt391 => (if bt391.1 < 0 then (laws_FnExactGlueEar.j1 k x0 x1 x5 x6 x8 true) else ((laws_eqIntS.f k x8 x5).bind fun t393 => (if t393 = true then (laws_FnExactGlueEar.j1 k x0 x1 x5 x6 x8 (x9 != x6)) else (laws_FnExactGlueEar.j1 k x0 x1 x5 x6 x8 true))))) else (none))))
def laws_FnExactGlueEar.j1 : Nat → List Int → Int → List Int → Bool → List Int → Bool → Option (Bool)
 | 0, _, _, _, _, _, _ => none
 | k + 1, x0, x1, x5, x6, x8, x62 => if x62 = true then (none) else ((laws_markIntS.f k x8 1).bind fun bt394 => ((laws_heldIntS.f k bt394.2 1).bind fun t396 => (if t396 < 0 then (none) else (if t396 = bt394.1 then ((laws_toIntS.f k x0).bind fun t397 => ((impl_GlueEar.f k t397 x1).bind fun bt400 => ((laws_eqIntS.f k bt400.1 x5).bind fun t404 => (if t404 = true then (laws_FnExactGlueEar.j2 k bt394.2 bt394.1 (bt400.2 != x6)) else (laws_FnExactGlueEar.j2 k bt394.2 bt394.1 true))))) else (none)))))
def laws_FnExactGlueEar.j2 : Nat → List Int → Int → Bool → Option (Bool)
 | 0, _, _, _ => none
 | k + 1, x8, x11, x89 => if x89 = true then (none) else ((laws_heldIntS.f k x8 1).bind fun t405 => (if t405 < 0 then (none) else (if t405 = x11 then (some true) else (none))))
end
def laws_FnExactGlueEar.f (k : Nat) (l0 : List Int) (a1 : Int) : Option (Bool) := if (l0.length : Int) > 1048576 then (some true) else ((laws_toIntS.f k l0).bind fun t372 => ((spec_GlueEar.f k t372 a1).bind fun bt375 => ((laws_toIntS.f k l0).bind fun t379 => ((impl_GlueEar.f k t379 a1).bind fun bt382 => ((laws_eqIntS.f k bt382.1 bt375.1).bind fun t386 => (if t386 = true then (laws_FnExactGlueEar.j0 k l0 a1 bt375.1 bt375.2 t379 bt382.1 bt382.2 (bt382.2 != bt375.2)) else (laws_FnExactGlueEar.j0 k l0 a1 bt375.1 bt375.2 t379 bt382.1 bt382.2 true)))))))
set_option maxHeartbeats 8000000 in
set_option maxRecDepth 100000 in
theorem laws_FnExactGlueEar.calls (k : Nat) (A0 : Option Addr) (c0 : Nat) (l0 : List Int) (a1 : Int) (r : Bool) (w : World) (hr0 : Kd.C (Kd.int .i64) w A0 l0.length l0) (hc0 : l0.length ≤ c0) (h : laws_FnExactGlueEar.f k l0 a1 = some r) :
  Calls Try.prog 9 #[.slice A0 l0.length c0, .int .i64 a1] w fun e w' => e = .returned (.bool r) ∧ Below w.heap.size w w' := by
 have HR0 := Aside0.mk hr0; have HC0 := Aside0.mk hc0; clear hr0 hc0; have HB := Aside0.mk (Below.refl w.heap.size w); have H : (if (l0.length : Int) > 1048576 then (some true) else ((laws_toIntS.f k l0).bind fun t372 => ((spec_GlueEar.f k t372 a1).bind fun bt375 => ((laws_toIntS.f k l0).bind fun t379 => ((impl_GlueEar.f k t379 a1).bind fun bt382 => ((laws_eqIntS.f k bt382.1 bt375.1).bind fun t386 => (if t386 = true then (laws_FnExactGlueEar.j0 k l0 a1 bt375.1 bt375.2 t379 bt382.1 bt382.2 (bt382.2 != bt375.2)) else (laws_FnExactGlueEar.j0 k l0 a1 bt375.1 bt375.2 t379 bt382.1 bt382.2 true)))))))) = some r := h
 clear h
 by_cases c3 : (l0.length : Int) > 1048576
 ·rw [if_pos c3] at H
  have c3b0 : decide (1048576 < (l0.length : Int)) = true := decide_eq_true c3; have c3b1 : decide (1048576 < l0.length) = true := decide_eq_true (by omega)
  clear c3; obtain rfl := Option.some.inj H
  go_enter Try.func9, Try.ntmps9
  go_wp2
  go_ret
  exact ⟨by first | rfl | (simp [errW_none, errW_some] <;> rfl) | (simp [*, errW_none, errW_some] <;> rfl), bl_ HB.out⟩
 ·rw [if_neg c3] at H
  have c3b0 : decide (1048576 < (l0.length : Int)) = false := decide_eq_false c3; have c3b1 : decide (1048576 < l0.length) = false := decide_eq_false (by omega)
  clear c3; replace H := Option.bind_eq_some_iff.mp H; obtain ⟨t372, A40, H⟩ := H; replace H : ((spec_GlueEar.f k t372 a1).bind fun bt375 => ((laws_toIntS.f k l0).bind fun t379 => ((impl_GlueEar.f k t379 a1).bind fun bt382 => ((laws_eqIntS.f k bt382.1 bt375.1).bind fun t386 => (if t386 = true then (laws_FnExactGlueEar.j0 k l0 a1 bt375.1 bt375.2 t379 bt382.1 bt382.2 (bt382.2 != bt375.2)) else (laws_FnExactGlueEar.j0 k l0 a1 bt375.1 bt375.2 t379 bt382.1 bt382.2 true)))))) = some r := H
  have A4 := Aside0.mk A40; clear A40; replace H := Option.bind_eq_some_iff.mp H; obtain ⟨⟨t375, t376⟩, A50, H⟩ := H; replace H : ((laws_toIntS.f k l0).bind fun t379 => ((impl_GlueEar.f k t379 a1).bind fun bt382 => ((laws_eqIntS.f k bt382.1 t375).bind fun t386 => (if t386 = true then (laws_FnExactGlueEar.j0 k l0 a1 t375 t376 t379 bt382.1 bt382.2 (bt382.2 != t376)) else (laws_FnExactGlueEar.j0 k l0 a1 t375 t376 t379 bt382.1 bt382.2 true))))) = some r := H
  have A5 := Aside0.mk A50; clear A50; replace H := Option.bind_eq_some_iff.mp H; obtain ⟨t379, A60, H⟩ := H; replace H : ((impl_GlueEar.f k t379 a1).bind fun bt382 => ((laws_eqIntS.f k bt382.1 t375).bind fun t386 => (if t386 = true then (laws_FnExactGlueEar.j0 k l0 a1 t375 t376 t379 bt382.1 bt382.2 (bt382.2 != t376)) else (laws_FnExactGlueEar.j0 k l0 a1 t375 t376 t379 bt382.1 bt382.2 true)))) = some r := H
  have A6 := Aside0.mk A60; clear A60; replace H := Option.bind_eq_some_iff.mp H; obtain ⟨⟨t382, t383⟩, A70, H⟩ := H; replace H : ((laws_eqIntS.f k t382 t375).bind fun t386 => (if t386 = true then (laws_FnExactGlueEar.j0 k l0 a1 t375 t376 t379 t382 t383 (t383 != t376)) else (laws_FnExactGlueEar.j0 k l0 a1 t375 t376 t379 t382 t383 true))) = some r := H
  have A7 := Aside0.mk A70; clear A70; have HC8 := Aside0.mk H; clear H
  go_enter Try.func9, Try.ntmps9
  go_upto_region 6 with (first | ((with_reducible refine gate_callee (f := 13) rfl ?_); refine goesL_ (some 20) rfl rfl Try.func13 (by kernel_rfl) rfl #[.slice A0 l0.length c0] rfl (by (try simp only [List.map_toArray, List.map_cons, List.map_nil]); first | done | rfl | (simp only [List.length_drop, List.length_take]; rfl)) ?_; (with_reducible refine (laws_toIntS.calls k _ _ l0 t372 _ ?side1 ?side2 A4.out).mono ?_); (case side1 => repeat (first | exact HR0.out | (with_reducible refine Kd.C_alloc ?_ _) | (with_reducible refine Kd.C_drewN ?_ _) | (with_reducible refine Kd.C_drew ?_))); (case side2 => exact HC0.out); rintro e w9 ⟨v373, rfl, ho0, hb⟩; refine ⟨_, rfl, ?_⟩; have n0_ := Aside0.mk (Kd.R_lower ho0 (below_size (bl_ HB.out))); have n1_ := Aside0.mk (below_step (bl_ HB.out) hb); clear HB; have HO374 := n0_; have HB := n1_; clear n0_ n1_; (try clear hb); (try clear hb2); (try clear hk); (try clear hi); (try clear ho0); obtain ⟨Ao10, co10, eo10⟩ := Kd.R_slice HO374.out; subst eo10) | ((with_reducible refine gate_callee (f := 36) rfl ?_); refine goesL_ (some 22) rfl rfl Try.func36 (by kernel_rfl) rfl #[.slice Ao10 t372.length co10, .int .i64 a1] rfl (by (try simp only [List.map_toArray, List.map_cons, List.map_nil]); first | done | rfl | (simp only [List.length_drop, List.length_take]; rfl)) ?_; (with_reducible refine (spec_GlueEar.calls k _ _ t372 a1 t375 t376 _ ?side1 ?side2 A5.out).mono ?_); (case side1 => repeat (first | exact (Kd.R_reads' HO374.out).2.2 | (with_reducible refine Kd.C_alloc ?_ _) | (with_reducible refine Kd.C_drewN ?_ _) | (with_reducible refine Kd.C_drew ?_))); (case side2 => exact (Kd.R_reads' HO374.out).2.1); rintro e w11 ⟨v377, rfl, ho0, hb⟩; refine ⟨_, rfl, ?_⟩; have n0_ := Aside0.mk (Kd.R_elder' (kr_ HO374.out) (Kd.R_base ho0) hb); have n1_ := Aside0.mk (Kd.R_lower (Kd.R_new' ho0 (Kd.R_lt (kr_ HO374.out))) (below_size (bl_ HB.out))); have n2_ := Aside0.mk (below_step (bl_ HB.out) hb); clear HO374; clear HB; have HO374 := n0_; have HO378 := n1_; have HB := n2_; clear n0_ n1_ n2_; (try clear hb); (try clear hb2); (try clear hk); (try clear hi); (try clear ho0)) | ((with_reducible refine gate_callee (f := 13) rfl ?_); refine goesL_ (some 26) rfl rfl Try.func13 (by kernel_rfl) rfl #[.slice A0 l0.length c0] rfl (by (try simp only [List.map_toArray, List.map_cons, List.map_nil]); first | done | rfl | (simp only [List.length_drop, List.length_take]; rfl)) ?_; (with_reducible refine (laws_toIntS.calls k _ _ l0 t379 _ ?side1 ?side2 A6.out).mono ?_); (case side1 => repeat (first | exact (Kd.C_below HR0.out HB.out) | (with_reducible refine Kd.C_alloc ?_ _) | (with_reducible refine Kd.C_drewN ?_ _) | (with_reducible refine Kd.C_drew ?_))); (case side2 => exact HC0.out); rintro e w12 ⟨v380, rfl, ho0, hb⟩; refine ⟨_, rfl, ?_⟩; have n0_ := Aside0.mk (Kd.R_elder' (kr_ HO374.out) (Kd.R_base ho0) hb); have n1_ := Aside0.mk (Kd.R_elder' (kr_ HO378.out) (Kd.R_base ho0) hb); have n2_ := Aside0.mk (Kd.R_lower (Kd.R_new' (Kd.R_new' ho0 (Kd.R_lt (kr_ HO374.out))) (Kd.R_lt (kr_ HO378.out))) (below_size (bl_ HB.out))); have n3_ := Aside0.mk (below_step (bl_ HB.out) hb); clear HO374; clear HO378; clear HB; have HO374 := n0_; have HO378 := n1_; have HO381 := n2_; have HB := n3_; clear n0_ n1_ n2_ n3_; (try clear hb); (try clear hb2); (try clear hk); (try clear hi); (try clear ho0); obtain ⟨Ao13, co13, eo13⟩ := Kd.R_slice HO381.out; subst eo13) | ((with_reducible refine gate_callee (f := 37) rfl ?_); refine goesL_ (some 30) rfl rfl Try.func37 (by kernel_rfl) rfl #[.slice Ao13 t379.length co13, .int .i64 a1] rfl (by (try simp only [List.map_toArray, List.map_cons, List.map_nil]); first | done | rfl | (simp only [List.length_drop, List.length_take]; rfl)) ?_; (with_reducible refine (impl_GlueEar.calls k _ _ t379 a1 t382 t383 _ ?side1 ?side2 A7.out).mono ?_); (case side1 => repeat (first | exact (Kd.R_reads' HO381.out).2.2 | (with_reducible refine Kd.C_alloc ?_ _) | (with_reducible refine Kd.C_drewN ?_ _) | (with_reducible refine Kd.C_drew ?_))); (case side2 => exact (Kd.R_reads' HO381.out).2.1); rintro e w14 ⟨v384, rfl, ho0, hb⟩; refine ⟨_, rfl, ?_⟩; have n0_ := Aside0.mk (Kd.R_elder' (kr_ HO374.out) (Kd.R_base ho0) hb); have n1_ := Aside0.mk (Kd.R_elder' (kr_ HO378.out) (Kd.R_base ho0) hb); have n2_ := Aside0.mk (Kd.R_elder' (kr_ HO381.out) (Kd.R_base ho0) hb); have n3_ := Aside0.mk (Kd.R_lower (Kd.R_new' (Kd.R_new' (Kd.R_new' ho0 (Kd.R_lt (kr_ HO374.out))) (Kd.R_lt (kr_ HO378.out))) (Kd.R_lt (kr_ HO381.out))) (below_size (bl_ HB.out))); have n4_ := Aside0.mk (below_step (bl_ HB.out) hb); clear HO374; clear HO378; clear HO381; clear HB; have HO374 := n0_; have HO378 := n1_; have HO381 := n2_; have HO385 := n3_; have HB := n4_; clear n0_ n1_ n2_ n3_ n4_; (try clear hb); (try clear hb2); (try clear hk); (try clear hi); (try clear ho0)))
  (try simp only [Act.put, List.setIfInBounds_toArray, List.set_cons_zero, List.set_cons_succ])
  go_cut [41] (fun v41 wc => ∃ (kq : Nat) (x41_7 : Bool), v41 = .bool x41_7 ∧ Aside0 (laws_FnExactGlueEar.j0 kq l0 a1 t375 t376 t379 t382 t383 x41_7 = some r) ∧ Aside0 (kq ≤ k) ∧ Aside0 (Kd.R (Kd.int .i64) 3 wc w.heap.size (fun k_ => some k_ ≠ ((.slice Ao13 t379.length co13) : Value).ownBlock ∧ some k_ ≠ (v384 : Value).ownBlock) v377 t375) ∧ Aside0 (Kd.R (Kd.int .i64) 3 wc w.heap.size (fun k_ => some k_ ≠ (v377 : Value).ownBlock ∧ some k_ ≠ (v384 : Value).ownBlock) (.slice Ao13 t379.length co13) t379) ∧ Aside0 (Kd.R (Kd.int .i64) 3 wc w.heap.size (fun k_ => some k_ ≠ (v377 : Value).ownBlock ∧ some k_ ≠ ((.slice Ao13 t379.length co13) : Value).ownBlock) v384 t382) ∧ Aside0 (Below w.heap.size w wc))
  case first =>
   have H := HC8.out; clear HC8; replace H := Option.bind_eq_some_iff.mp H; obtain ⟨t386, A150, H⟩ := H; replace H : (if t386 = true then (laws_FnExactGlueEar.j0 k l0 a1 t375 t376 t379 t382 t383 (t383 != t376)) else (laws_FnExactGlueEar.j0 k l0 a1 t375 t376 t379 t382 t383 true)) = some r := H
   have A15 := Aside0.mk A150; clear A150
   by_cases c16 : t386 = true
   ·subst c16
    have H1 : (laws_FnExactGlueEar.j0 k l0 a1 t375 t376 t379 t382 t383 (t383 != t376)) = some r := by rw [if_pos rfl] at H; exact H
    clear H; have H := H1; clear H1; have H' := Aside0.mk H; clear H; obtain ⟨Ao17, co17, eo17⟩ := Kd.R_slice HO385.out; subst eo17; obtain ⟨Ao18, co18, eo18⟩ := Kd.R_slice HO378.out; subst eo18
    go_wp2_with (first | ((with_reducible refine gate_callee (f := 15) rfl ?_); refine goesL_ (some 35) rfl rfl Try.func15 (by kernel_rfl) rfl #[.slice Ao17 t382.length co17, .slice Ao18 t375.length co18] rfl (by (try simp only [List.map_toArray, List.map_cons, List.map_nil]); first | done | rfl | (simp only [List.length_drop, List.length_take]; rfl)) ?_; (with_reducible refine (laws_eqIntS.calls k _ _ t382 _ _ t375 true _ ?side1 ?side2 ?side3 ?side4 A15.out).mono ?_); (case side1 => repeat (first | exact (Kd.R_reads' HO385.out).2.2 | (with_reducible refine Kd.C_alloc ?_ _) | (with_reducible refine Kd.C_drewN ?_ _) | (with_reducible refine Kd.C_drew ?_))); (case side2 => exact (Kd.R_reads' HO385.out).2.1); (case side3 => repeat (first | exact (Kd.R_reads' HO378.out).2.2 | (with_reducible refine Kd.C_alloc ?_ _) | (with_reducible refine Kd.C_drewN ?_ _) | (with_reducible refine Kd.C_drew ?_))); (case side4 => exact (Kd.R_reads' HO378.out).2.1); rintro e w' ⟨rfl, ⟨nd, rfl⟩⟩; refine ⟨_, rfl, ?_⟩))
    go_meet
    case rel => exact ⟨_, ((t383 != t376)), (fs_), H', ⟨by first | omega | exact Nat.le_refl _⟩, ⟨by (with_reducible repeat (first | apply Kd.R_alloc | apply Kd.R_drewN | apply Kd.R_drew)); exact Kd.R_mono HO378.out (fun _ hk => ⟨hk.1.2, hk.2⟩)⟩, ⟨by (with_reducible repeat (first | apply Kd.R_alloc | apply Kd.R_drewN | apply Kd.R_drew)); exact Kd.R_mono HO381.out (fun _ hk => ⟨hk.1.2, hk.2⟩)⟩, ⟨by (with_reducible repeat (first | apply Kd.R_alloc | apply Kd.R_drewN | apply Kd.R_drew)); exact Kd.R_mono HO385.out (fun _ hk => ⟨hk.1.2, hk.2⟩)⟩, ⟨bl_ HB.out⟩⟩
   ·replace c16 := Bool.eq_false_iff.mpr c16
    subst c16; have H1 : (laws_FnExactGlueEar.j0 k l0 a1 t375 t376 t379 t382 t383 true) = some r := by rw [if_neg (show ¬ (false = true) by decide)] at H; exact H
    clear H; have H := H1; clear H1; have H' := Aside0.mk H; clear H; obtain ⟨Ao19, co19, eo19⟩ := Kd.R_slice HO385.out; subst eo19; obtain ⟨Ao20, co20, eo20⟩ := Kd.R_slice HO378.out; subst eo20
    go_wp2_with (first | ((with_reducible refine gate_callee (f := 15) rfl ?_); refine goesL_ (some 35) rfl rfl Try.func15 (by kernel_rfl) rfl #[.slice Ao19 t382.length co19, .slice Ao20 t375.length co20] rfl (by (try simp only [List.map_toArray, List.map_cons, List.map_nil]); first | done | rfl | (simp only [List.length_drop, List.length_take]; rfl)) ?_; (with_reducible refine (laws_eqIntS.calls k _ _ t382 _ _ t375 false _ ?side1 ?side2 ?side3 ?side4 A15.out).mono ?_); (case side1 => repeat (first | exact (Kd.R_reads' HO385.out).2.2 | (with_reducible refine Kd.C_alloc ?_ _) | (with_reducible refine Kd.C_drewN ?_ _) | (with_reducible refine Kd.C_drew ?_))); (case side2 => exact (Kd.R_reads' HO385.out).2.1); (case side3 => repeat (first | exact (Kd.R_reads' HO378.out).2.2 | (with_reducible refine Kd.C_alloc ?_ _) | (with_reducible refine Kd.C_drewN ?_ _) | (with_reducible refine Kd.C_drew ?_))); (case side4 => exact (Kd.R_reads' HO378.out).2.1); rintro e w' ⟨rfl, ⟨nd, rfl⟩⟩; refine ⟨_, rfl, ?_⟩))
    go_meet
    case rel => exact ⟨_, (true), (fs_), H', ⟨by first | omega | exact Nat.le_refl _⟩, ⟨by (with_reducible repeat (first | apply Kd.R_alloc | apply Kd.R_drewN | apply Kd.R_drew)); exact Kd.R_mono HO378.out (fun _ hk => ⟨hk.1.2, hk.2⟩)⟩, ⟨by (with_reducible repeat (first | apply Kd.R_alloc | apply Kd.R_drewN | apply Kd.R_drew)); exact Kd.R_mono HO381.out (fun _ hk => ⟨hk.1.2, hk.2⟩)⟩, ⟨by (with_reducible repeat (first | apply Kd.R_alloc | apply Kd.R_drewN | apply Kd.R_drew)); exact Kd.R_mono HO385.out (fun _ hk => ⟨hk.1.2, hk.2⟩)⟩, ⟨bl_ HB.out⟩⟩
  case rest =>
   clear HC8
   try clear c1
   try clear p2
   try clear c3
   try clear c3b0
   try clear c3b1
   try clear c9
   try clear c13
   try clear c15
   try clear c16
   obtain ⟨kq, x41_7, rfl, HA, HJ7, HO_5, HO_7, HO_8, HB⟩ := hcut
   cases kq with
   | zero => exact absurd HA.out (by simp [laws_FnExactGlueEar.j0])
   | succ kj7 =>
    have H := HA.out; clear HA
    simp only [laws_FnExactGlueEar.j0] at H
    by_cases c21 : x41_7 = true
    ·subst c21
     have H1 : (none) = some r := by rw [if_pos rfl] at H; exact H
     clear H; have H := H1; clear H1; exact absurd H (by simp)
    ·replace c21 := Bool.eq_false_iff.mpr c21
     subst c21; have H1 : ((laws_toIntS.f kj7 l0).bind fun t387 => ((laws_eqIntS.f kj7 t379 t387).bind fun t390 => (if t390 = true then ((laws_markIntS.f kj7 t379 1).bind fun bt391 => (if bt391.1 < 0 then (laws_FnExactGlueEar.j1 kj7 l0 a1 t375 t376 t382 true) else ((laws_eqIntS.f kj7 t382 t375).bind fun t393 => (if t393 = true then (laws_FnExactGlueEar.j1 kj7 l0 a1 t375 t376 t382 (t383 != t376)) else (laws_FnExactGlueEar.j1 kj7 l0 a1 t375 t376 t382 true))))) else (none)))) = some r := by rw [if_neg (show ¬ (false = true) by decide)] at H; exact H
     clear H; have H := H1; clear H1; replace H := Option.bind_eq_some_iff.mp H; obtain ⟨t387, A220, H⟩ := H; replace H : ((laws_eqIntS.f kj7 t379 t387).bind fun t390 => (if t390 = true then ((laws_markIntS.f kj7 t379 1).bind fun bt391 => (if bt391.1 < 0 then (laws_FnExactGlueEar.j1 kj7 l0 a1 t375 t376 t382 true) else ((laws_eqIntS.f kj7 t382 t375).bind fun t393 => (if t393 = true then (laws_FnExactGlueEar.j1 kj7 l0 a1 t375 t376 t382 (t383 != t376)) else (laws_FnExactGlueEar.j1 kj7 l0 a1 t375 t376 t382 true))))) else (none))) = some r := H
     have A22 := Aside0.mk A220; clear A220; replace H := Option.bind_eq_some_iff.mp H; obtain ⟨t390, A230, H⟩ := H; replace H : (if t390 = true then ((laws_markIntS.f kj7 t379 1).bind fun bt391 => (if bt391.1 < 0 then (laws_FnExactGlueEar.j1 kj7 l0 a1 t375 t376 t382 true) else ((laws_eqIntS.f kj7 t382 t375).bind fun t393 => (if t393 = true then (laws_FnExactGlueEar.j1 kj7 l0 a1 t375 t376 t382 (t383 != t376)) else (laws_FnExactGlueEar.j1 kj7 l0 a1 t375 t376 t382 true))))) else (none)) = some r := H
     have A23 := Aside0.mk A230; clear A230
     by_cases c24 : t390 = true
     ·subst c24
      have H1 : ((laws_markIntS.f kj7 t379 1).bind fun bt391 => (if bt391.1 < 0 then (laws_FnExactGlueEar.j1 kj7 l0 a1 t375 t376 t382 true) else ((laws_eqIntS.f kj7 t382 t375).bind fun t393 => (if t393 = true then (laws_FnExactGlueEar.j1 kj7 l0 a1 t375 t376 t382 (t383 != t376)) else (laws_FnExactGlueEar.j1 kj7 l0 a1 t375 t376 t382 true))))) = some r := by rw [if_pos rfl] at H; exact H
      clear H; have H := H1; clear H1; replace H := Option.bind_eq_some_iff.mp H; obtain ⟨⟨t391, t392⟩, A250, H⟩ := H; replace H : (if t391 < 0 then (laws_FnExactGlueEar.j1 kj7 l0 a1 t375 t376 t382 true) else ((laws_eqIntS.f kj7 t382 t375).bind fun t393 => (if t393 = true then (laws_FnExactGlueEar.j1 kj7 l0 a1 t375 t376 t382 (t383 != t376)) else (laws_FnExactGlueEar.j1 kj7 l0 a1 t375 t376 t382 true)))) = some r := H
      have A25 := Aside0.mk A250; clear A250; have HC26 := Aside0.mk H; clear H
      go_upto_region 12 with (first | ((with_reducible refine gate_callee (f := 13) rfl ?_); refine goesL_ (some 44) rfl rfl Try.func13 (by kernel_rfl) rfl #[.slice A0 l0.length c0] rfl (by (try simp only [List.map_toArray, List.map_cons, List.map_nil]); first | done | rfl | (simp only [List.length_drop, List.length_take]; rfl)) ?_; (with_reducible refine (laws_toIntS.calls kj7 _ _ l0 t387 _ ?side1 ?side2 A22.out).mono ?_); (case side1 => repeat (first | exact (Kd.C_below HR0.out HB.out) | (with_reducible refine Kd.C_alloc ?_ _) | (with_reducible refine Kd.C_drewN ?_ _) | (with_reducible refine Kd.C_drew ?_))); (case side2 => exact HC0.out); rintro e w27 ⟨v388, rfl, ho0, hb⟩; refine ⟨_, rfl, ?_⟩; have n0_ := Aside0.mk (Kd.R_elder' (kr_ HO_5.out) (Kd.R_base ho0) hb); have n1_ := Aside0.mk (Kd.R_elder' (kr_ HO_7.out) (Kd.R_base ho0) hb); have n2_ := Aside0.mk (Kd.R_elder' (kr_ HO_8.out) (Kd.R_base ho0) hb); have n3_ := Aside0.mk (Kd.R_lower (Kd.R_new' (Kd.R_new' (Kd.R_new' ho0 (Kd.R_lt (kr_ HO_5.out))) (Kd.R_lt (kr_ HO_7.out))) (Kd.R_lt (kr_ HO_8.out))) (below_size (bl_ HB.out))); have n4_ := Aside0.mk (below_step (bl_ HB.out) hb); clear HO_5; clear HO_7; clear HO_8; clear HB; have HO_5 := n0_; have HO_7 := n1_; have HO_8 := n2_; have HO389 := n3_; have HB := n4_; clear n0_ n1_ n2_ n3_ n4_; (try clear hb); (try clear hb2); (try clear hk); (try clear hi); (try clear ho0); obtain ⟨Ao28, co28, eo28⟩ := Kd.R_slice HO389.out; subst eo28) | ((with_reducible refine gate_callee (f := 15) rfl ?_); refine goesL_ (some 45) rfl rfl Try.func15 (by kernel_rfl) rfl #[.slice Ao13 t379.length co13, .slice Ao28 t387.length co28] rfl (by (try simp only [List.map_toArray, List.map_cons, List.map_nil]); first | done | rfl | (simp only [List.length_drop, List.length_take]; rfl)) ?_; (with_reducible refine (laws_eqIntS.calls kj7 _ _ t379 _ _ t387 true _ ?side1 ?side2 ?side3 ?side4 A23.out).mono ?_); (case side1 => repeat (first | exact (Kd.R_reads' HO_7.out).2.2 | (with_reducible refine Kd.C_alloc ?_ _) | (with_reducible refine Kd.C_drewN ?_ _) | (with_reducible refine Kd.C_drew ?_))); (case side2 => exact (Kd.R_reads' HO_7.out).2.1); (case side3 => repeat (first | exact (Kd.R_reads' HO389.out).2.2 | (with_reducible refine Kd.C_alloc ?_ _) | (with_reducible refine Kd.C_drewN ?_ _) | (with_reducible refine Kd.C_drew ?_))); (case side4 => exact (Kd.R_reads' HO389.out).2.1); rintro e w' ⟨rfl, ⟨nd, rfl⟩⟩; refine ⟨_, rfl, ?_⟩) | ((with_reducible refine gate_callee (f := 19) rfl ?_); refine goesL_ (some 49) rfl rfl Try.func19 (by kernel_rfl) rfl #[.slice Ao13 t379.length co13, .int .i64 1] rfl (by (try simp only [List.map_toArray, List.map_cons, List.map_nil]); first | done | rfl | (simp only [List.length_drop, List.length_take]; rfl)) ?_; (with_reducible refine (laws_markIntS.calls kj7 (fun k_ => some k_ = (.slice Ao13 t379.length co13 : Value).ownBlock) (.slice Ao13 t379.length co13) t379 1 t391 t392 w _ ?side1 ?side2 A25.out).mono ?_); (case side1 => repeat (first | (with_reducible first | exact HB.out | apply below_alloc | apply pw_below_drewN | apply below_drew1) | exact HB.out)); (case side2 => exact Kd.R_tight rfl HO_7.out); rintro e w29 ⟨rfl, hy0, hb, hkp⟩; refine ⟨_, rfl, ?_⟩; have n0_ := Aside0.mk (Kd.R_mono (ok' := fun k_ => some k_ ≠ (.slice Ao13 t379.length co13 : Value).ownBlock ∧ some k_ ≠ (v384 : Value).ownBlock ∧ some k_ ≠ (.slice Ao28 t387.length co28 : Value).ownBlock) (Kd.R_keptB (HO_5.out) hkp (fun k_ hk_ hs_ => (hk_.1.1) hs_)) (fun k_ hk_ => ⟨hk_.1.1.1, hk_.1.1.2, hk_.1.2⟩)); have n1_ := Aside0.mk (Kd.R_reok rfl hy0 (fun k_ e_ => HO_7.out.1 k_ e_)); have n2_ := Aside0.mk (Kd.R_mono (ok' := fun k_ => some k_ ≠ (v377 : Value).ownBlock ∧ some k_ ≠ (.slice Ao13 t379.length co13 : Value).ownBlock ∧ some k_ ≠ (.slice Ao28 t387.length co28 : Value).ownBlock) (Kd.R_keptB (HO_8.out) hkp (fun k_ hk_ hs_ => (hk_.1.2) hs_)) (fun k_ hk_ => ⟨hk_.1.1.1, hk_.1.1.2, hk_.1.2⟩)); have n3_ := Aside0.mk (Kd.R_mono (ok' := fun k_ => some k_ ≠ (v377 : Value).ownBlock ∧ some k_ ≠ (.slice Ao13 t379.length co13 : Value).ownBlock ∧ some k_ ≠ (v384 : Value).ownBlock) (Kd.R_keptB (HO389.out) hkp (fun k_ hk_ hs_ => (hk_.1.2) hs_)) (fun k_ hk_ => ⟨hk_.1.1.1.2, hk_.1.1.2, hk_.1.2⟩)); have n4_ := Aside0.mk (hb); clear HO_5; clear HO_7; clear HO_8; clear HO389; clear HB; have HO_5 := n0_; have HO_7 := n1_; have HO_8 := n2_; have HO389 := n3_; have HB := n4_; clear n0_ n1_ n2_ n3_ n4_; (try clear hb); (try clear hkp); (try clear hy0)))
      (try simp only [Act.put, List.setIfInBounds_toArray, List.set_cons_zero, List.set_cons_succ])
      go_cut [62] (fun v62 wc => ∃ (kq : Nat) (x62_25 : Bool), v62 = .bool x62_25 ∧ Aside0 (laws_FnExactGlueEar.j1 kq l0 a1 t375 t376 t382 x62_25 = some r) ∧ Aside0 (kq ≤ kj7) ∧ Aside0 (Kd.R (Kd.int .i64) 3 wc w.heap.size (fun k_ => some k_ ≠ (v384 : Value).ownBlock) v377 t375) ∧ Aside0 (Kd.R (Kd.int .i64) 3 wc w.heap.size (fun k_ => some k_ ≠ (v377 : Value).ownBlock) v384 t382) ∧ Aside0 (Below w.heap.size w wc))
      case first =>
       have H := HC26.out; clear HC26
       by_cases c30 : t391 < 0
       ·rw [if_pos c30] at H
        have c30b0 : decide (t391 < 0) = true := decide_eq_true c30; clear c30
        (first | rw [c30b0] | (simp only [i64_w, i32_w]; rw [c30b0]) | skip)
        have H' := Aside0.mk H; clear H
        go_wp2
        go_meet
        case rel => exact ⟨_, (true), (fs_), H', ⟨by have := HJ7.out; first | omega | exact Nat.le_refl _⟩, ⟨by (with_reducible repeat (first | apply Kd.R_alloc | apply Kd.R_drewN | apply Kd.R_drew)); exact Kd.R_mono HO_5.out (fun _ hk => hk.2.1)⟩, ⟨by (with_reducible repeat (first | apply Kd.R_alloc | apply Kd.R_drewN | apply Kd.R_drew)); exact Kd.R_mono HO_8.out (fun _ hk => hk.1)⟩, ⟨bl_ HB.out⟩⟩
       ·rw [if_neg c30] at H
        have c30b0 : decide (t391 < 0) = false := decide_eq_false c30; clear c30
        (first | rw [c30b0] | (simp only [i64_w, i32_w]; rw [c30b0]) | skip)
        replace H := Option.bind_eq_some_iff.mp H; obtain ⟨t393, A310, H⟩ := H; replace H : (if t393 = true then (laws_FnExactGlueEar.j1 kj7 l0 a1 t375 t376 t382 (t383 != t376)) else (laws_FnExactGlueEar.j1 kj7 l0 a1 t375 t376 t382 true)) = some r := H
        have A31 := Aside0.mk A310; clear A310
        by_cases c32 : t393 = true
        ·subst c32
         have H1 : (laws_FnExactGlueEar.j1 kj7 l0 a1 t375 t376 t382 (t383 != t376)) = some r := by rw [if_pos rfl] at H; exact H
         clear H; have H := H1; clear H1; have H' := Aside0.mk H; clear H; obtain ⟨Ao33, co33, eo33⟩ := Kd.R_slice HO_8.out; subst eo33; obtain ⟨Ao34, co34, eo34⟩ := Kd.R_slice HO_5.out; subst eo34
         go_wp2_with (first | (go_at_call 15; (with_reducible refine (laws_eqIntS.calls kj7 _ _ t382 _ _ t375 true _ ?side1 ?side2 ?side3 ?side4 A31.out).mono ?_); (case side1 => repeat (first | exact (Kd.R_reads' HO_8.out).2.2 | (with_reducible refine Kd.C_alloc ?_ _) | (with_reducible refine Kd.C_drewN ?_ _) | (with_reducible refine Kd.C_drew ?_))); (case side2 => exact (Kd.R_reads' HO_8.out).2.1); (case side3 => repeat (first | exact (Kd.R_reads' HO_5.out).2.2 | (with_reducible refine Kd.C_alloc ?_ _) | (with_reducible refine Kd.C_drewN ?_ _) | (with_reducible refine Kd.C_drew ?_))); (case side4 => exact (Kd.R_reads' HO_5.out).2.1); rintro e w' ⟨rfl, ⟨nd, rfl⟩⟩))
         go_meet
         case rel => exact ⟨_, ((t383 != t376)), (fs_), H', ⟨by have := HJ7.out; first | omega | exact Nat.le_refl _⟩, ⟨by (with_reducible repeat (first | apply Kd.R_alloc | apply Kd.R_drewN | apply Kd.R_drew)); exact Kd.R_mono HO_5.out (fun _ hk => hk.2.1)⟩, ⟨by (with_reducible repeat (first | apply Kd.R_alloc | apply Kd.R_drewN | apply Kd.R_drew)); exact Kd.R_mono HO_8.out (fun _ hk => hk.1)⟩, ⟨bl_ HB.out⟩⟩
        ·replace c32 := Bool.eq_false_iff.mpr c32
         subst c32; have H1 : (laws_FnExactGlueEar.j1 kj7 l0 a1 t375 t376 t382 true) = some r := by rw [if_neg (show ¬ (false = true) by decide)] at H; exact H
         clear H; have H := H1; clear H1; have H' := Aside0.mk H; clear H; obtain ⟨Ao35, co35, eo35⟩ := Kd.R_slice HO_8.out; subst eo35; obtain ⟨Ao36, co36, eo36⟩ := Kd.R_slice HO_5.out; subst eo36
         go_wp2_with (first | (go_at_call 15; (with_reducible refine (laws_eqIntS.calls kj7 _ _ t382 _ _ t375 false _ ?side1 ?side2 ?side3 ?side4 A31.out).mono ?_); (case side1 => repeat (first | exact (Kd.R_reads' HO_8.out).2.2 | (with_reducible refine Kd.C_alloc ?_ _) | (with_reducible refine Kd.C_drewN ?_ _) | (with_reducible refine Kd.C_drew ?_))); (case side2 => exact (Kd.R_reads' HO_8.out).2.1); (case side3 => repeat (first | exact (Kd.R_reads' HO_5.out).2.2 | (with_reducible refine Kd.C_alloc ?_ _) | (with_reducible refine Kd.C_drewN ?_ _) | (with_reducible refine Kd.C_drew ?_))); (case side4 => exact (Kd.R_reads' HO_5.out).2.1); rintro e w' ⟨rfl, ⟨nd, rfl⟩⟩))
         go_meet
         case rel => exact ⟨_, (true), (fs_), H', ⟨by have := HJ7.out; first | omega | exact Nat.le_refl _⟩, ⟨by (with_reducible repeat (first | apply Kd.R_alloc | apply Kd.R_drewN | apply Kd.R_drew)); exact Kd.R_mono HO_5.out (fun _ hk => hk.2.1)⟩, ⟨by (with_reducible repeat (first | apply Kd.R_alloc | apply Kd.R_drewN | apply Kd.R_drew)); exact Kd.R_mono HO_8.out (fun _ hk => hk.1)⟩, ⟨bl_ HB.out⟩⟩
      case rest =>
       clear HC26
       try clear c1
       try clear c2
       try clear p2
       try clear c3
       try clear c3b0
       try clear c3b1
       try clear c9
       try clear c13
       try clear c15
       try clear c16
       try clear c19
       try clear c21
       try clear c24
       try clear c30
       try clear c30b0
       try clear c32
       try clear c36
       try clear p2
       obtain ⟨kq, x62_25, rfl, HA, HJ25, HO_5, HO_8, HB⟩ := hcut
       cases kq with
       | zero => exact absurd HA.out (by simp [laws_FnExactGlueEar.j1])
       | succ kj25 =>
        have H := HA.out; clear HA
        simp only [laws_FnExactGlueEar.j1] at H
        by_cases c37 : x62_25 = true
        ·subst c37
         have H1 : (none) = some r := by rw [if_pos rfl] at H; exact H
         clear H; have H := H1; clear H1; exact absurd H (by simp)
        ·replace c37 := Bool.eq_false_iff.mpr c37
         subst c37; have H1 : ((laws_markIntS.f kj25 t382 1).bind fun bt394 => ((laws_heldIntS.f kj25 bt394.2 1).bind fun t396 => (if t396 < 0 then (none) else (if t396 = bt394.1 then ((laws_toIntS.f kj25 l0).bind fun t397 => ((impl_GlueEar.f kj25 t397 a1).bind fun bt400 => ((laws_eqIntS.f kj25 bt400.1 t375).bind fun t404 => (if t404 = true then (laws_FnExactGlueEar.j2 kj25 bt394.2 bt394.1 (bt400.2 != t376)) else (laws_FnExactGlueEar.j2 kj25 bt394.2 bt394.1 true))))) else (none))))) = some r := by rw [if_neg (show ¬ (false = true) by decide)] at H; exact H
         clear H; have H := H1; clear H1; replace H := Option.bind_eq_some_iff.mp H; obtain ⟨⟨t394, t395⟩, A380, H⟩ := H; replace H : ((laws_heldIntS.f kj25 t395 1).bind fun t396 => (if t396 < 0 then (none) else (if t396 = t394 then ((laws_toIntS.f kj25 l0).bind fun t397 => ((impl_GlueEar.f kj25 t397 a1).bind fun bt400 => ((laws_eqIntS.f kj25 bt400.1 t375).bind fun t404 => (if t404 = true then (laws_FnExactGlueEar.j2 kj25 t395 t394 (bt400.2 != t376)) else (laws_FnExactGlueEar.j2 kj25 t395 t394 true))))) else (none)))) = some r := H
         have A38 := Aside0.mk A380; clear A380; replace H := Option.bind_eq_some_iff.mp H; obtain ⟨t396, A390, H⟩ := H; replace H : (if t396 < 0 then (none) else (if t396 = t394 then ((laws_toIntS.f kj25 l0).bind fun t397 => ((impl_GlueEar.f kj25 t397 a1).bind fun bt400 => ((laws_eqIntS.f kj25 bt400.1 t375).bind fun t404 => (if t404 = true then (laws_FnExactGlueEar.j2 kj25 t395 t394 (bt400.2 != t376)) else (laws_FnExactGlueEar.j2 kj25 t395 t394 true))))) else (none))) = some r := H
         have A39 := Aside0.mk A390; clear A390
         by_cases c40 : t396 < 0
         ·rw [if_pos c40] at H
          exact absurd H (by simp)
         ·rw [if_neg c40] at H
          have c40b0 : decide (t396 < 0) = false := decide_eq_false c40; clear c40
          by_cases c41 : t396 = t394
          ·rw [if_pos c41] at H
           have c41b0 : (t396 == t394) = true := beq_iff_eq.mpr c41; have c41b1 : (t396 != t394) = false := bne_eq_false_iff_eq.mpr c41; clear c41; replace H := Option.bind_eq_some_iff.mp H; obtain ⟨t397, A420, H⟩ := H; replace H : ((impl_GlueEar.f kj25 t397 a1).bind fun bt400 => ((laws_eqIntS.f kj25 bt400.1 t375).bind fun t404 => (if t404 = true then (laws_FnExactGlueEar.j2 kj25 t395 t394 (bt400.2 != t376)) else (laws_FnExactGlueEar.j2 kj25 t395 t394 true)))) = some r := H
           have A42 := Aside0.mk A420; clear A420; replace H := Option.bind_eq_some_iff.mp H; obtain ⟨⟨t400, t401⟩, A430, H⟩ := H; replace H : ((laws_eqIntS.f kj25 t400 t375).bind fun t404 => (if t404 = true then (laws_FnExactGlueEar.j2 kj25 t395 t394 (t401 != t376)) else (laws_FnExactGlueEar.j2 kj25 t395 t394 true))) = some r := H
           have A43 := Aside0.mk A430; clear A430; have HC44 := Aside0.mk H; clear H; obtain ⟨Ao45, co45, eo45⟩ := Kd.R_slice HO_8.out; subst eo45
           go_upto_region 23 with (first | ((with_reducible refine gate_callee (f := 19) rfl ?_); refine goesL_ (some 65) rfl rfl Try.func19 (by kernel_rfl) rfl #[.slice Ao45 t382.length co45, .int .i64 1] rfl (by (try simp only [List.map_toArray, List.map_cons, List.map_nil]); first | done | rfl | (simp only [List.length_drop, List.length_take]; rfl)) ?_; (with_reducible refine (laws_markIntS.calls kj25 (fun k_ => some k_ = (.slice Ao45 t382.length co45 : Value).ownBlock) (.slice Ao45 t382.length co45) t382 1 t394 t395 w _ ?side1 ?side2 A38.out).mono ?_); (case side1 => repeat (first | (with_reducible first | exact HB.out | apply below_alloc | apply pw_below_drewN | apply below_drew1) | exact HB.out)); (case side2 => exact Kd.R_tight rfl HO_8.out); rintro e w46 ⟨rfl, hy0, hb, hkp⟩; refine ⟨_, rfl, ?_⟩; have n0_ := Aside0.mk (Kd.R_mono (ok' := fun k_ => some k_ ≠ (.slice Ao45 t382.length co45 : Value).ownBlock) (Kd.R_keptB (HO_5.out) hkp (fun k_ hk_ hs_ => (hk_) hs_)) (fun k_ hk_ => hk_.1)); have n1_ := Aside0.mk (Kd.R_reok rfl hy0 (fun k_ e_ => HO_8.out.1 k_ e_)); have n2_ := Aside0.mk (hb); clear HO_5; clear HO_8; clear HB; have HO_5 := n0_; have HO_8 := n1_; have HB := n2_; clear n0_ n1_ n2_; (try clear hb); (try clear hkp); (try clear hy0)) | ((with_reducible refine gate_callee (f := 26) rfl ?_); refine goesL_ (some 68) rfl rfl Try.func26 (by kernel_rfl) rfl #[.slice Ao45 t395.length co45, .int .i64 1] rfl (by (try simp only [List.map_toArray, List.map_cons, List.map_nil]); first | done | (rw [show t395.length = t382.length from (Kd.R_reads' HO_8.out).1.symm] <;> rfl) | rfl | (simp only [List.length_drop, List.length_take]; rfl)) ?_; (with_reducible refine (laws_heldIntS.calls kj25 _ _ t395 1 t396 _ ?side1 ?side2 A39.out).mono ?_); (case side1 => repeat (first | exact (Kd.R_reads' HO_8.out).2.2 | (with_reducible refine Kd.C_alloc ?_ _) | (with_reducible refine Kd.C_drewN ?_ _) | (with_reducible refine Kd.C_drew ?_))); (case side2 => rw [show t395.length = t382.length from (Kd.R_reads' HO_8.out).1.symm]; exact (Kd.R_reads' HO_8.out).2.1); rintro e w' ⟨rfl, ⟨nd, rfl⟩⟩; refine ⟨_, rfl, ?_⟩) | ((with_reducible refine gate_callee (f := 13) rfl ?_); refine goesL_ (some 76) rfl rfl Try.func13 (by kernel_rfl) rfl #[.slice A0 l0.length c0] rfl (by (try simp only [List.map_toArray, List.map_cons, List.map_nil]); first | done | rfl | (simp only [List.length_drop, List.length_take]; rfl)) ?_; (with_reducible refine (laws_toIntS.calls kj25 _ _ l0 t397 _ ?side1 ?side2 A42.out).mono ?_); (case side1 => repeat (first | exact (Kd.C_below HR0.out (bl_ HB.out)) | (with_reducible refine Kd.C_alloc ?_ _) | (with_reducible refine Kd.C_drewN ?_ _) | (with_reducible refine Kd.C_drew ?_))); (case side2 => exact HC0.out); rintro e w47 ⟨v398, rfl, ho0, hb⟩; refine ⟨_, rfl, ?_⟩; have n0_ := Aside0.mk (Kd.R_elder' (kr_ HO_5.out) (Kd.R_base ho0) hb); have n1_ := Aside0.mk (Kd.R_elder' (kr_ HO_8.out) (Kd.R_base ho0) hb); have n2_ := Aside0.mk (Kd.R_lower (Kd.R_new' (Kd.R_new' ho0 (Kd.R_lt (kr_ HO_5.out))) (Kd.R_lt (kr_ HO_8.out))) (below_size (bl_ HB.out))); have n3_ := Aside0.mk (below_step (bl_ HB.out) hb); clear HO_5; clear HO_8; clear HB; have HO_5 := n0_; have HO_8 := n1_; have HO399 := n2_; have HB := n3_; clear n0_ n1_ n2_ n3_; (try clear hb); (try clear hb2); (try clear hk); (try clear hi); (try clear ho0); obtain ⟨Ao48, co48, eo48⟩ := Kd.R_slice HO399.out; subst eo48) | ((with_reducible refine gate_callee (f := 37) rfl ?_); refine goesL_ (some 78) rfl rfl Try.func37 (by kernel_rfl) rfl #[.slice Ao48 t397.length co48, .int .i64 a1] rfl (by (try simp only [List.map_toArray, List.map_cons, List.map_nil]); first | done | rfl | (simp only [List.length_drop, List.length_take]; rfl)) ?_; (with_reducible refine (impl_GlueEar.calls kj25 _ _ t397 a1 t400 t401 _ ?side1 ?side2 A43.out).mono ?_); (case side1 => repeat (first | exact (Kd.R_reads' HO399.out).2.2 | (with_reducible refine Kd.C_alloc ?_ _) | (with_reducible refine Kd.C_drewN ?_ _) | (with_reducible refine Kd.C_drew ?_))); (case side2 => exact (Kd.R_reads' HO399.out).2.1); rintro e w49 ⟨v402, rfl, ho0, hb⟩; refine ⟨_, rfl, ?_⟩; have n0_ := Aside0.mk (Kd.R_elder' (kr_ HO_5.out) (Kd.R_base ho0) hb); have n1_ := Aside0.mk (Kd.R_elder' (kr_ HO_8.out) (Kd.R_base ho0) hb); have n2_ := Aside0.mk (Kd.R_elder' (kr_ HO399.out) (Kd.R_base ho0) hb); have n3_ := Aside0.mk (Kd.R_lower (Kd.R_new' (Kd.R_new' (Kd.R_new' ho0 (Kd.R_lt (kr_ HO_5.out))) (Kd.R_lt (kr_ HO_8.out))) (Kd.R_lt (kr_ HO399.out))) (below_size (bl_ HB.out))); have n4_ := Aside0.mk (below_step (bl_ HB.out) hb); clear HO_5; clear HO_8; clear HO399; clear HB; have HO_5 := n0_; have HO_8 := n1_; have HO399 := n2_; have HO403 := n3_; have HB := n4_; clear n0_ n1_ n2_ n3_ n4_; (try clear hb); (try clear hb2); (try clear hk); (try clear hi); (try clear ho0)))
           (try simp only [Act.put, List.setIfInBounds_toArray, List.set_cons_zero, List.set_cons_succ])
           go_cut [89] (fun v89 wc => ∃ (kq : Nat) (x89_43 : Bool), v89 = .bool x89_43 ∧ Aside0 (laws_FnExactGlueEar.j2 kq t395 t394 x89_43 = some r) ∧ Aside0 (kq ≤ kj25) ∧ Aside0 (Kd.R (Kd.int .i64) 3 wc w.heap.size (fun _ => True) (.slice Ao45 t382.length co45) t395) ∧ Aside0 (Below w.heap.size w wc))
           case first =>
            have H := HC44.out; clear HC44; replace H := Option.bind_eq_some_iff.mp H; obtain ⟨t404, A500, H⟩ := H; replace H : (if t404 = true then (laws_FnExactGlueEar.j2 kj25 t395 t394 (t401 != t376)) else (laws_FnExactGlueEar.j2 kj25 t395 t394 true)) = some r := H
            have A50 := Aside0.mk A500; clear A500
            by_cases c51 : t404 = true
            ·subst c51
             have H1 : (laws_FnExactGlueEar.j2 kj25 t395 t394 (t401 != t376)) = some r := by rw [if_pos rfl] at H; exact H
             clear H; have H := H1; clear H1; have H' := Aside0.mk H; clear H; obtain ⟨Ao52, co52, eo52⟩ := Kd.R_slice HO403.out; subst eo52; obtain ⟨Ao53, co53, eo53⟩ := Kd.R_slice HO_5.out; subst eo53
             go_wp2_with (first | ((with_reducible refine gate_callee (f := 15) rfl ?_); refine goesL_ (some 83) rfl rfl Try.func15 (by kernel_rfl) rfl #[.slice Ao52 t400.length co52, .slice Ao53 t375.length co53] rfl (by (try simp only [List.map_toArray, List.map_cons, List.map_nil]); first | done | rfl | (simp only [List.length_drop, List.length_take]; rfl)) ?_; (with_reducible refine (laws_eqIntS.calls kj25 _ _ t400 _ _ t375 true _ ?side1 ?side2 ?side3 ?side4 A50.out).mono ?_); (case side1 => repeat (first | exact (Kd.R_reads' HO403.out).2.2 | (with_reducible refine Kd.C_alloc ?_ _) | (with_reducible refine Kd.C_drewN ?_ _) | (with_reducible refine Kd.C_drew ?_))); (case side2 => exact (Kd.R_reads' HO403.out).2.1); (case side3 => repeat (first | exact (Kd.R_reads' HO_5.out).2.2 | (with_reducible refine Kd.C_alloc ?_ _) | (with_reducible refine Kd.C_drewN ?_ _) | (with_reducible refine Kd.C_drew ?_))); (case side4 => exact (Kd.R_reads' HO_5.out).2.1); rintro e w' ⟨rfl, ⟨nd, rfl⟩⟩; refine ⟨_, rfl, ?_⟩))
             go_meet
             case rel => exact ⟨_, ((t401 != t376)), (fs_), H', ⟨by have := HJ7.out; have := HJ25.out; first | omega | exact Nat.le_refl _⟩, ⟨by (with_reducible repeat (first | apply Kd.R_alloc | apply Kd.R_drewN | apply Kd.R_drew)); exact Kd.R_mono HO_8.out (fun _ hk => trivial)⟩, ⟨bl_ HB.out⟩⟩
            ·replace c51 := Bool.eq_false_iff.mpr c51
             subst c51; have H1 : (laws_FnExactGlueEar.j2 kj25 t395 t394 true) = some r := by rw [if_neg (show ¬ (false = true) by decide)] at H; exact H
             clear H; have H := H1; clear H1; have H' := Aside0.mk H; clear H; obtain ⟨Ao54, co54, eo54⟩ := Kd.R_slice HO403.out; subst eo54; obtain ⟨Ao55, co55, eo55⟩ := Kd.R_slice HO_5.out; subst eo55
             go_wp2_with (first | ((with_reducible refine gate_callee (f := 15) rfl ?_); refine goesL_ (some 83) rfl rfl Try.func15 (by kernel_rfl) rfl #[.slice Ao54 t400.length co54, .slice Ao55 t375.length co55] rfl (by (try simp only [List.map_toArray, List.map_cons, List.map_nil]); first | done | rfl | (simp only [List.length_drop, List.length_take]; rfl)) ?_; (with_reducible refine (laws_eqIntS.calls kj25 _ _ t400 _ _ t375 false _ ?side1 ?side2 ?side3 ?side4 A50.out).mono ?_); (case side1 => repeat (first | exact (Kd.R_reads' HO403.out).2.2 | (with_reducible refine Kd.C_alloc ?_ _) | (with_reducible refine Kd.C_drewN ?_ _) | (with_reducible refine Kd.C_drew ?_))); (case side2 => exact (Kd.R_reads' HO403.out).2.1); (case side3 => repeat (first | exact (Kd.R_reads' HO_5.out).2.2 | (with_reducible refine Kd.C_alloc ?_ _) | (with_reducible refine Kd.C_drewN ?_ _) | (with_reducible refine Kd.C_drew ?_))); (case side4 => exact (Kd.R_reads' HO_5.out).2.1); rintro e w' ⟨rfl, ⟨nd, rfl⟩⟩; refine ⟨_, rfl, ?_⟩))
             go_meet
             case rel => exact ⟨_, (true), (fs_), H', ⟨by have := HJ7.out; have := HJ25.out; first | omega | exact Nat.le_refl _⟩, ⟨by (with_reducible repeat (first | apply Kd.R_alloc | apply Kd.R_drewN | apply Kd.R_drew)); exact Kd.R_mono HO_8.out (fun _ hk => trivial)⟩, ⟨bl_ HB.out⟩⟩
           case rest =>
            clear HC44
            try clear c1
            try clear c2
            try clear p2
            try clear c3
            try clear c3b0
            try clear c3b1
            try clear c4
            try clear c5
            try clear c9
            try clear c13
            try clear c15
            try clear c16
            try clear c19
            try clear c21
            try clear c24
            try clear c26
            try clear c30
            try clear c30b0
            try clear c32
            try clear c36
            try clear c37
            try clear c40
            try clear c40b0
            try clear c41
            try clear c41b0
            try clear c41b1
            try clear c51
            try clear p2
            obtain ⟨kq, x89_43, rfl, HA, HJ43, HO_8, HB⟩ := hcut; have hl8_43 := (Kd.R_reads' HO_8.out).1; rw [hl8_43] at HO_8
            (try simp only [hl8_43])
            cases kq with
            | zero => exact absurd HA.out (by simp [laws_FnExactGlueEar.j2])
            | succ kj43 =>
             have H := HA.out; clear HA
             simp only [laws_FnExactGlueEar.j2] at H
             by_cases c56 : x89_43 = true
             ·subst c56
              have H1 : (none) = some r := by rw [if_pos rfl] at H; exact H
              clear H; have H := H1; clear H1; exact absurd H (by simp)
             ·replace c56 := Bool.eq_false_iff.mpr c56
              subst c56; have H1 : ((laws_heldIntS.f kj43 t395 1).bind fun t405 => (if t405 < 0 then (none) else (if t405 = t394 then (some true) else (none)))) = some r := by rw [if_neg (show ¬ (false = true) by decide)] at H; exact H
              clear H; have H := H1; clear H1; replace H := Option.bind_eq_some_iff.mp H; obtain ⟨t405, A570, H⟩ := H; replace H : (if t405 < 0 then (none) else (if t405 = t394 then (some true) else (none))) = some r := H
              have A57 := Aside0.mk A570; clear A570
              by_cases c58 : t405 < 0
              ·rw [if_pos c58] at H
               exact absurd H (by simp)
              ·rw [if_neg c58] at H
               have c58b0 : decide (t405 < 0) = false := decide_eq_false c58; clear c58
               by_cases c59 : t405 = t394
               ·rw [if_pos c59] at H
                have c59b0 : (t405 == t394) = true := beq_iff_eq.mpr c59; have c59b1 : (t405 != t394) = false := bne_eq_false_iff_eq.mpr c59; clear c59; obtain rfl := Option.some.inj H
                go_wp2_with (first | ((with_reducible refine gate_callee (f := 26) rfl ?_); refine goesL_ (some 92) rfl rfl Try.func26 (by kernel_rfl) rfl #[.slice Ao45 t395.length co45, .int .i64 1] rfl (by (try simp only [List.map_toArray, List.map_cons, List.map_nil]); first | done | rfl | (simp only [List.length_drop, List.length_take]; rfl)) ?_; (with_reducible refine (laws_heldIntS.calls kj43 _ _ t395 1 t405 _ ?side1 ?side2 A57.out).mono ?_); (case side1 => repeat (first | exact (Kd.R_reads' HO_8.out).2.2 | (with_reducible refine Kd.C_alloc ?_ _) | (with_reducible refine Kd.C_drewN ?_ _) | (with_reducible refine Kd.C_drew ?_))); (case side2 => exact (Kd.R_reads' HO_8.out).2.1); rintro e w' ⟨rfl, ⟨nd, rfl⟩⟩; refine ⟨_, rfl, ?_⟩))
                go_ret
                exact ⟨by first | rfl | (simp [errW_none, errW_some] <;> rfl) | (simp [*, errW_none, errW_some] <;> rfl), bl_ HB.out⟩
               ·rw [if_neg c59] at H
                exact absurd H (by simp)
          ·rw [if_neg c41] at H
           exact absurd H (by simp)
     ·replace c24 := Bool.eq_false_iff.mpr c24
      subst c24; have H1 : (none) = some r := by rw [if_neg (show ¬ (false = true) by decide)] at H; exact H
      clear H; have H := H1; clear H1; exact absurd H (by simp)
def laws_FnExactGlueEar.Pure : Prop := ∀ (l0 : List Int) (a1 : Int), l0.length ≤ 9223372036854775807 → (∀ x ∈ l0, (Lit.int .i64 x).wf = true) → (Lit.int .i64 a1).wf = true → ∃ k, laws_FnExactGlueEar.f k l0 a1 = some true
end Go.Proofs.Ytinnmloliknilab.PFnExactGlueEar
