-- Written for this claim by a program of this session (wip/tools/xprint.py over the kit's printer, wip/tools/shrink.py).
import Derived.Test.YtmpmmhmnjdkgcabDoorPFnExactDiagonalsTextx0
import Derived.Test.YtmpmmhmnjdkgcabDoorPFnExactDiagonalsTextx2
import Derived.Test.YtmpmmhmnjdkgcabDoorPFnExactDiagonalsTextx3
import Derived.Test.YtmpmmhmnjdkgcabDoorPFnExactDiagonalsTextx4
namespace Go.Proofs.YtmpmmhmnjdkgcabDoor.PFnExactDiagonalsText
open Go.RowKit Go.Proofs.YtmpmmhmnjdkgcabDoorW.PrintWords Go.Proofs.YtmpmmhmnjdkgcabDoorW.PrintLast Go.Proofs.YtmpmmhmnjdkgcabDoorW.PrintMore
attribute [local go_sem] max2_int min2_int max_two min_two max_three min_three max_four min_four   -- for this text's walks alone
set_option linter.unusedVariables false
set_option linter.unusedSimpArgs false
def laws_FnExactDiagonalsText.j0 : Nat → List (S35) → List (S33) → Bool → Option (Bool)
 | 0, _, _, _ => none
 | k + 1, x0, x6, x34 => if x34 = true then (none) else ((laws_toDiagonalS.f k x0).bind fun t164 => ((laws_eqDiagonalS.f k x6 t164).bind fun t167 => (if t167 = true then (some true) else (none))))
def laws_FnExactDiagonalsText.f (k : Nat) (l0 : List (S35)) : Option (Bool) := (laws_szDiagonalS.f l0 1048576).bind fun t153 => (if t153 < 0 then (some true) else ((laws_toDiagonalS.f k l0).bind fun t154 => ((spec_DiagonalsText.f k t154).bind fun bt157 => ((laws_toDiagonalS.f k l0).bind fun t159 => ((impl_DiagonalsText.f k t159).bind fun bt162 => (if bt162.1.toList = bt157.1.toList then (laws_FnExactDiagonalsText.j0 k l0 t159 (bt162.2 != bt157.2)) else (laws_FnExactDiagonalsText.j0 k l0 t159 true)))))))
set_option maxHeartbeats 8000000 in
set_option maxRecDepth 100000 in
theorem laws_FnExactDiagonalsText.calls (k : Nat) (A0 : Option Addr) (c0 : Nat) (l0 : List (S35)) (r : Bool) (w : World) (hr0 : Kd.C k35 w A0 l0.length l0) (hc0 : l0.length ≤ c0) (h : laws_FnExactDiagonalsText.f k l0 = some r) :
  Calls Tryd.prog 3 #[.slice A0 l0.length c0] w fun e w' => e = .returned (.bool r) ∧ Below w.heap.size w w' := by
 have HR0 := Aside0.mk hr0; have HC0 := Aside0.mk hc0; clear hr0 hc0; have HB := Aside0.mk (Below.refl w.heap.size w); have H : ((laws_szDiagonalS.f l0 1048576).bind fun t153 => (if t153 < 0 then (some true) else ((laws_toDiagonalS.f k l0).bind fun t154 => ((spec_DiagonalsText.f k t154).bind fun bt157 => ((laws_toDiagonalS.f k l0).bind fun t159 => ((impl_DiagonalsText.f k t159).bind fun bt162 => (if bt162.1.toList = bt157.1.toList then (laws_FnExactDiagonalsText.j0 k l0 t159 (bt162.2 != bt157.2)) else (laws_FnExactDiagonalsText.j0 k l0 t159 true)))))))) = some r := h
 clear h; replace H := Option.bind_eq_some_iff.mp H; obtain ⟨t153, A20, H⟩ := H; replace H : (if t153 < 0 then (some true) else ((laws_toDiagonalS.f k l0).bind fun t154 => ((spec_DiagonalsText.f k t154).bind fun bt157 => ((laws_toDiagonalS.f k l0).bind fun t159 => ((impl_DiagonalsText.f k t159).bind fun bt162 => (if bt162.1.toList = bt157.1.toList then (laws_FnExactDiagonalsText.j0 k l0 t159 (bt162.2 != bt157.2)) else (laws_FnExactDiagonalsText.j0 k l0 t159 true))))))) = some r := H
 have A2 := Aside0.mk A20; clear A20
 by_cases c3 : t153 < 0
 ·rw [if_pos c3] at H
  have c3b0 : decide (t153 < 0) = true := decide_eq_true c3; clear c3; obtain rfl := Option.some.inj H
  go_enter Tryd.func3, Tryd.ntmps3
  go_wp2_with (first | ((with_reducible refine gate_callee (f := 4) rfl ?_); refine goesL_ (some 11) rfl rfl Tryd.func4 (by kernel_rfl) rfl #[.slice A0 l0.length c0, .int .i64 1048576] rfl (by (try simp only [List.map_toArray, List.map_cons, List.map_nil]); first | done | rfl | (simp only [List.length_drop, List.length_take]; rfl)) ?_; (with_reducible refine (laws_szDiagonalS.calls _ _ l0 1048576 t153 _ ?side1 ?side2 A2.out).mono ?_); (case side1 => repeat (first | exact HR0.out | (with_reducible refine Kd.C_alloc ?_ _) | (with_reducible refine Kd.C_drewN ?_ _) | (with_reducible refine Kd.C_drew ?_))); (case side2 => exact HC0.out); rintro e w' ⟨rfl, ⟨nd, rfl⟩⟩; refine ⟨_, rfl, ?_⟩))
  go_ret
  exact ⟨by first | rfl | (simp [errW_none, errW_some] <;> rfl) | (simp [*, errW_none, errW_some] <;> rfl), bl_ HB.out⟩
 ·rw [if_neg c3] at H
  have c3b0 : decide (t153 < 0) = false := decide_eq_false c3; clear c3; replace H := Option.bind_eq_some_iff.mp H; obtain ⟨t154, A40, H⟩ := H; replace H : ((spec_DiagonalsText.f k t154).bind fun bt157 => ((laws_toDiagonalS.f k l0).bind fun t159 => ((impl_DiagonalsText.f k t159).bind fun bt162 => (if bt162.1.toList = bt157.1.toList then (laws_FnExactDiagonalsText.j0 k l0 t159 (bt162.2 != bt157.2)) else (laws_FnExactDiagonalsText.j0 k l0 t159 true))))) = some r := H
  have A4 := Aside0.mk A40; clear A40; replace H := Option.bind_eq_some_iff.mp H; obtain ⟨⟨t157, t158⟩, A50, H⟩ := H; replace H : ((laws_toDiagonalS.f k l0).bind fun t159 => ((impl_DiagonalsText.f k t159).bind fun bt162 => (if bt162.1.toList = t157.toList then (laws_FnExactDiagonalsText.j0 k l0 t159 (bt162.2 != t158)) else (laws_FnExactDiagonalsText.j0 k l0 t159 true)))) = some r := H
  have A5 := Aside0.mk A50; clear A50; replace H := Option.bind_eq_some_iff.mp H; obtain ⟨t159, A60, H⟩ := H; replace H : ((impl_DiagonalsText.f k t159).bind fun bt162 => (if bt162.1.toList = t157.toList then (laws_FnExactDiagonalsText.j0 k l0 t159 (bt162.2 != t158)) else (laws_FnExactDiagonalsText.j0 k l0 t159 true))) = some r := H
  have A6 := Aside0.mk A60; clear A60; replace H := Option.bind_eq_some_iff.mp H; obtain ⟨⟨t162, t163⟩, A70, H⟩ := H; replace H : (if t162.toList = t157.toList then (laws_FnExactDiagonalsText.j0 k l0 t159 (t163 != t158)) else (laws_FnExactDiagonalsText.j0 k l0 t159 true)) = some r := H
  have A7 := Aside0.mk A70; clear A70; have HC8 := Aside0.mk H; clear H
  go_enter Tryd.func3, Tryd.ntmps3
  go_upto_region 8 with (first | ((with_reducible refine gate_callee (f := 4) rfl ?_); refine goesL_ (some 11) rfl rfl Tryd.func4 (by kernel_rfl) rfl #[.slice A0 l0.length c0, .int .i64 1048576] rfl (by (try simp only [List.map_toArray, List.map_cons, List.map_nil]); first | done | rfl | (simp only [List.length_drop, List.length_take]; rfl)) ?_; (with_reducible refine (laws_szDiagonalS.calls _ _ l0 1048576 t153 _ ?side1 ?side2 A2.out).mono ?_); (case side1 => repeat (first | exact HR0.out | (with_reducible refine Kd.C_alloc ?_ _) | (with_reducible refine Kd.C_drewN ?_ _) | (with_reducible refine Kd.C_drew ?_))); (case side2 => exact HC0.out); rintro e w' ⟨rfl, ⟨nd, rfl⟩⟩; refine ⟨_, rfl, ?_⟩) | ((with_reducible refine gate_callee (f := 6) rfl ?_); refine goesL_ (some 16) rfl rfl Tryd.func6 (by kernel_rfl) rfl #[.slice A0 l0.length c0] rfl (by (try simp only [List.map_toArray, List.map_cons, List.map_nil]); first | done | rfl | (simp only [List.length_drop, List.length_take]; rfl)) ?_; (with_reducible refine (laws_toDiagonalS.calls k _ _ l0 t154 _ ?side1 ?side2 A4.out).mono ?_); (case side1 => repeat (first | exact HR0.out | (with_reducible refine Kd.C_alloc ?_ _) | (with_reducible refine Kd.C_drewN ?_ _) | (with_reducible refine Kd.C_drew ?_))); (case side2 => exact HC0.out); rintro e w9 ⟨v155, rfl, ho0, hb⟩; refine ⟨_, rfl, ?_⟩; have n0_ := Aside0.mk (Kd.R_lower ho0 (below_size (bl_ HB.out))); have n1_ := Aside0.mk (below_step (bl_ HB.out) hb); clear HB; have HO156 := n0_; have HB := n1_; clear n0_ n1_; (try clear hb); (try clear hb2); (try clear hk); (try clear hi); (try clear ho0); obtain ⟨Ao10, co10, eo10⟩ := Kd.R_slice HO156.out; subst eo10) | ((with_reducible refine gate_callee (f := 5) rfl ?_); refine goesL_ (some 17) rfl rfl Tryd.func5 (by kernel_rfl) rfl #[.slice Ao10 t154.length co10] rfl (by (try simp only [List.map_toArray, List.map_cons, List.map_nil]); first | done | rfl | (simp only [List.length_drop, List.length_take]; rfl)) ?_; (with_reducible refine (spec_DiagonalsText.calls k _ _ t154 t157 t158 _ ?side1 ?side2 A5.out).mono ?_); (case side1 => repeat (first | exact (Kd.R_reads' HO156.out).2.2 | (with_reducible refine Kd.C_alloc ?_ _) | (with_reducible refine Kd.C_drewN ?_ _) | (with_reducible refine Kd.C_drew ?_))); (case side2 => exact (Kd.R_reads' HO156.out).2.1); rintro e w11 ⟨rfl, hb⟩; refine ⟨_, rfl, ?_⟩; have n0_ := Aside0.mk (Kd.R_below (kr_ HO156.out) hb); have n1_ := Aside0.mk (below_step (bl_ HB.out) hb); clear HO156; clear HB; have HO156 := n0_; have HB := n1_; clear n0_ n1_; (try clear hb); (try clear hb2); (try clear hk); (try clear hi)) | ((with_reducible refine gate_callee (f := 6) rfl ?_); refine goesL_ (some 21) rfl rfl Tryd.func6 (by kernel_rfl) rfl #[.slice A0 l0.length c0] rfl (by (try simp only [List.map_toArray, List.map_cons, List.map_nil]); first | done | rfl | (simp only [List.length_drop, List.length_take]; rfl)) ?_; (with_reducible refine (laws_toDiagonalS.calls k _ _ l0 t159 _ ?side1 ?side2 A6.out).mono ?_); (case side1 => repeat (first | exact (Kd.C_below HR0.out HB.out) | (with_reducible refine Kd.C_alloc ?_ _) | (with_reducible refine Kd.C_drewN ?_ _) | (with_reducible refine Kd.C_drew ?_))); (case side2 => exact HC0.out); rintro e w12 ⟨v160, rfl, ho0, hb⟩; refine ⟨_, rfl, ?_⟩; have n0_ := Aside0.mk (Kd.R_elder' (kr_ HO156.out) (Kd.R_base ho0) hb); have n1_ := Aside0.mk (Kd.R_lower (Kd.R_new' ho0 (Kd.R_lt (kr_ HO156.out))) (below_size (bl_ HB.out))); have n2_ := Aside0.mk (below_step (bl_ HB.out) hb); clear HO156; clear HB; have HO156 := n0_; have HO161 := n1_; have HB := n2_; clear n0_ n1_ n2_; (try clear hb); (try clear hb2); (try clear hk); (try clear hi); (try clear ho0); obtain ⟨Ao13, co13, eo13⟩ := Kd.R_slice HO161.out; subst eo13) | ((with_reducible refine gate_callee (f := 7) rfl ?_); refine goesL_ (some 24) rfl rfl Tryd.func7 (by kernel_rfl) rfl #[.slice Ao13 t159.length co13] rfl (by (try simp only [List.map_toArray, List.map_cons, List.map_nil]); first | done | rfl | (simp only [List.length_drop, List.length_take]; rfl)) ?_; (with_reducible refine (impl_DiagonalsText.calls k _ _ t159 t162 t163 _ ?side1 ?side2 A7.out).mono ?_); (case side1 => repeat (first | exact (Kd.R_reads' HO161.out).2.2 | (with_reducible refine Kd.C_alloc ?_ _) | (with_reducible refine Kd.C_drewN ?_ _) | (with_reducible refine Kd.C_drew ?_))); (case side2 => exact (Kd.R_reads' HO161.out).2.1); rintro e w14 ⟨rfl, hb⟩; refine ⟨_, rfl, ?_⟩; have n0_ := Aside0.mk (Kd.R_below (kr_ HO156.out) hb); have n1_ := Aside0.mk (Kd.R_below (kr_ HO161.out) hb); have n2_ := Aside0.mk (below_step (bl_ HB.out) hb); clear HO156; clear HO161; clear HB; have HO156 := n0_; have HO161 := n1_; have HB := n2_; clear n0_ n1_ n2_; (try clear hb); (try clear hb2); (try clear hk); (try clear hi)))
  (try simp only [Act.put, List.setIfInBounds_toArray, List.set_cons_zero, List.set_cons_succ])
  go_cut [34] (fun v34 wc => ∃ (kq : Nat) (x34_7 : Bool), v34 = .bool x34_7 ∧ Aside0 (laws_FnExactDiagonalsText.j0 kq l0 t159 x34_7 = some r) ∧ Aside0 (kq ≤ k) ∧ Aside0 (Kd.R k33 33 wc w.heap.size (fun _ => True) (.slice Ao13 t159.length co13) t159) ∧ Aside0 (Below w.heap.size w wc))
  case first =>
   have H := HC8.out; clear HC8
   by_cases c15 : t162.toList = t157.toList
   ·rw [if_pos c15] at H
    have c15b0 : (t162.toList == t157.toList) = true := beq_iff_eq.mpr c15; have c15b1 : (t162.toList != t157.toList) = false := bne_eq_false_iff_eq.mpr c15; clear c15
    (first | rw [c15b0] | (simp only [i64_w, i32_w]; rw [c15b0]) | skip)
    have H' := Aside0.mk H; clear H
    go_wp2
    go_meet
    case rel => exact ⟨_, ((t163 != t158)), (fs_), H', ⟨by first | omega | exact Nat.le_refl _⟩, ⟨by (with_reducible repeat (first | apply Kd.R_alloc | apply Kd.R_drewN | apply Kd.R_drew)); exact Kd.R_mono HO161.out (fun _ hk => trivial)⟩, ⟨bl_ HB.out⟩⟩
   ·rw [if_neg c15] at H
    have c15b0 : (t162.toList == t157.toList) = false := beq_eq_false_iff_ne.mpr c15; have c15b1 : (t162.toList != t157.toList) = true := bne_iff_ne.mpr c15
    (first | rw [c15b0] | (simp only [i64_w, i32_w]; rw [c15b0]) | skip)
    have H' := Aside0.mk H; clear H
    go_wp2
    go_meet
    case rel => exact ⟨_, (true), (fs_), H', ⟨by first | omega | exact Nat.le_refl _⟩, ⟨by (with_reducible repeat (first | apply Kd.R_alloc | apply Kd.R_drewN | apply Kd.R_drew)); exact Kd.R_mono HO161.out (fun _ hk => trivial)⟩, ⟨bl_ HB.out⟩⟩
  case rest =>
   clear HC8
   try clear c1
   try clear p2
   try clear c3
   try clear c3b0
   try clear c4
   try clear c5
   try clear c6
   try clear c7
   try clear c15
   try clear c15b0
   try clear c15b1
   obtain ⟨kq, x34_7, rfl, HA, HJ7, HO_6, HB⟩ := hcut
   cases kq with
   | zero => exact absurd HA.out (by simp [laws_FnExactDiagonalsText.j0])
   | succ kj7 =>
    have H := HA.out; clear HA
    simp only [laws_FnExactDiagonalsText.j0] at H
    by_cases c16 : x34_7 = true
    ·subst c16
     have H1 : (none) = some r := by rw [if_pos rfl] at H; exact H
     clear H; have H := H1; clear H1; exact absurd H (by simp)
    ·replace c16 := Bool.eq_false_iff.mpr c16
     subst c16; have H1 : ((laws_toDiagonalS.f kj7 l0).bind fun t164 => ((laws_eqDiagonalS.f kj7 t159 t164).bind fun t167 => (if t167 = true then (some true) else (none)))) = some r := by rw [if_neg (show ¬ (false = true) by decide)] at H; exact H
     clear H; have H := H1; clear H1; replace H := Option.bind_eq_some_iff.mp H; obtain ⟨t164, A170, H⟩ := H; replace H : ((laws_eqDiagonalS.f kj7 t159 t164).bind fun t167 => (if t167 = true then (some true) else (none))) = some r := H
     have A17 := Aside0.mk A170; clear A170; replace H := Option.bind_eq_some_iff.mp H; obtain ⟨t167, A180, H⟩ := H; replace H : (if t167 = true then (some true) else (none)) = some r := H
     have A18 := Aside0.mk A180; clear A180
     by_cases c19 : t167 = true
     ·subst c19
      have H1 : (some true) = some r := by rw [if_pos rfl] at H; exact H
      clear H; have H := H1; clear H1; obtain rfl := Option.some.inj H
      go_wp2_with (first | ((with_reducible refine gate_callee (f := 6) rfl ?_); refine goesL_ (some 37) rfl rfl Tryd.func6 (by kernel_rfl) rfl #[.slice A0 l0.length c0] rfl (by (try simp only [List.map_toArray, List.map_cons, List.map_nil]); first | done | rfl | (simp only [List.length_drop, List.length_take]; rfl)) ?_; (with_reducible refine (laws_toDiagonalS.calls kj7 _ _ l0 t164 _ ?side1 ?side2 A17.out).mono ?_); (case side1 => repeat (first | exact (Kd.C_below HR0.out HB.out) | (with_reducible refine Kd.C_alloc ?_ _) | (with_reducible refine Kd.C_drewN ?_ _) | (with_reducible refine Kd.C_drew ?_))); (case side2 => exact HC0.out); rintro e w20 ⟨v165, rfl, ho0, hb⟩; refine ⟨_, rfl, ?_⟩; have n0_ := Aside0.mk (Kd.R_elder' (kr_ HO_6.out) (Kd.R_base ho0) hb); have n1_ := Aside0.mk (Kd.R_lower (Kd.R_new' ho0 (Kd.R_lt (kr_ HO_6.out))) (below_size (bl_ HB.out))); have n2_ := Aside0.mk (below_step (bl_ HB.out) hb); clear HO_6; clear HB; have HO_6 := n0_; have HO166 := n1_; have HB := n2_; clear n0_ n1_ n2_; (try clear hb); (try clear hb2); (try clear hk); (try clear hi); (try clear ho0); obtain ⟨Ao21, co21, eo21⟩ := Kd.R_slice HO166.out; subst eo21) | ((with_reducible refine gate_callee (f := 8) rfl ?_); refine goesL_ (some 38) rfl rfl Tryd.func8 (by kernel_rfl) rfl #[.slice Ao13 t159.length co13, .slice Ao21 t164.length co21] rfl (by (try simp only [List.map_toArray, List.map_cons, List.map_nil]); first | done | rfl | (simp only [List.length_drop, List.length_take]; rfl)) ?_; (with_reducible refine (laws_eqDiagonalS.calls kj7 _ _ t159 _ _ t164 true _ ?side1 ?side2 ?side3 ?side4 A18.out).mono ?_); (case side1 => repeat (first | exact (Kd.R_reads' HO_6.out).2.2 | (with_reducible refine Kd.C_alloc ?_ _) | (with_reducible refine Kd.C_drewN ?_ _) | (with_reducible refine Kd.C_drew ?_))); (case side2 => exact (Kd.R_reads' HO_6.out).2.1); (case side3 => repeat (first | exact (Kd.R_reads' HO166.out).2.2 | (with_reducible refine Kd.C_alloc ?_ _) | (with_reducible refine Kd.C_drewN ?_ _) | (with_reducible refine Kd.C_drew ?_))); (case side4 => exact (Kd.R_reads' HO166.out).2.1); rintro e w22 ⟨rfl, hb⟩; refine ⟨_, rfl, ?_⟩; have n0_ := Aside0.mk (Kd.R_below (kr_ HO_6.out) hb); have n1_ := Aside0.mk (Kd.R_below (kr_ HO166.out) hb); have n2_ := Aside0.mk (below_step (bl_ HB.out) hb); clear HO_6; clear HO166; clear HB; have HO_6 := n0_; have HO166 := n1_; have HB := n2_; clear n0_ n1_ n2_; (try clear hb); (try clear hb2); (try clear hk); (try clear hi)))
      go_ret
      exact ⟨by first | rfl | (simp [errW_none, errW_some] <;> rfl) | (simp [*, errW_none, errW_some] <;> rfl), bl_ HB.out⟩
     ·replace c19 := Bool.eq_false_iff.mpr c19
      subst c19; have H1 : (none) = some r := by rw [if_neg (show ¬ (false = true) by decide)] at H; exact H
      clear H; have H := H1; clear H1; exact absurd H (by simp)
def laws_FnExactDiagonalsText.Pure : Prop := ∀ (l0 : List (S35)), l0.length ≤ 9223372036854775807 → (∀ x ∈ l0, (Lit.int .i64 x.f0).wf = true ∧ (Lit.int .i64 x.f1).wf = true) → ∃ k, laws_FnExactDiagonalsText.f k l0 = some true
end Go.Proofs.YtmpmmhmnjdkgcabDoor.PFnExactDiagonalsText
