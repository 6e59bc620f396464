-- Written for this claim by a program of this session (wip/tools/xprint.py over the kit's printer, wip/tools/shrink.py).
import Derived.Test.YtmpmmhmnjdkgcaaDoorPFnExactFriezeTextx0
import Derived.Test.YtmpmmhmnjdkgcaaDoorPFnExactFriezeTextx6
import Derived.Test.YtmpmmhmnjdkgcaaDoorPFnExactFriezeTextx15
import Derived.Test.YtmpmmhmnjdkgcaaDoorPFnExactFriezeTextx16
import Derived.Test.YtmpmmhmnjdkgcaaDoorPFnExactFriezeTextx17
namespace Go.Proofs.YtmpmmhmnjdkgcaaDoor.PFnExactFriezeText
open Go.RowKit Go.Proofs.YtmpmmhmnjdkgcaaDoorW.PrintWords Go.Proofs.YtmpmmhmnjdkgcaaDoorW.PrintLast Go.Proofs.YtmpmmhmnjdkgcaaDoorW.PrintMore
attribute [local go_sem] max2_int min2_int max_two min_two max_three min_three max_four min_four   -- for this text's walks alone
set_option linter.unusedVariables false
set_option linter.unusedSimpArgs false
def laws_FnExactFriezeText.j0 : Nat → List (List Int) → List (List Int) → Bool → Option (Bool)
 | 0, _, _, _ => none
 | k + 1, x0, x6, x34 => if x34 = true then (none) else ((laws_toIntSS.f k x0).bind fun t474 => ((laws_eqIntSS.f k x6 t474).bind fun t477 => (if t477 = true then (some true) else (none))))
def laws_FnExactFriezeText.f (k : Nat) (l0 : List (List Int)) : Option (Bool) := (laws_szIntSS.f k l0 1048576).bind fun t463 => (if t463 < 0 then (some true) else ((laws_toIntSS.f k l0).bind fun t464 => ((spec_FriezeText.f k t464).bind fun bt467 => ((laws_toIntSS.f k l0).bind fun t469 => ((impl_FriezeText.f k t469).bind fun bt472 => (if bt472.1.toList = bt467.1.toList then (laws_FnExactFriezeText.j0 k l0 t469 (bt472.2 != bt467.2)) else (laws_FnExactFriezeText.j0 k l0 t469 true)))))))
set_option maxHeartbeats 8000000 in
set_option maxRecDepth 100000 in
theorem laws_FnExactFriezeText.calls (k : Nat) (A0 : Option Addr) (c0 : Nat) (l0 : List (List Int)) (r : Bool) (w : World) (hr0 : Kd.C (Kd.slice 3 (Kd.int .i64)) w A0 l0.length l0) (hc0 : l0.length ≤ c0) (h : laws_FnExactFriezeText.f k l0 = some r) (htab : Lib.TabIs Tryd.prog w "internal/strconv.uint64pow10" .u64 Lib.pow10Tab) :
  Calls Tryd.prog 3 #[.slice A0 l0.length c0] w fun e w' => e = .returned (.bool r) ∧ Below w.heap.size w w' := by
 have HTAB := Aside0.mk (Lib.tabBelow_of_tabIs htab); clear htab; have HR0 := Aside0.mk hr0; have HC0 := Aside0.mk hc0; clear hr0 hc0; have HB := Aside0.mk (Below.refl w.heap.size w); have H : ((laws_szIntSS.f k l0 1048576).bind fun t463 => (if t463 < 0 then (some true) else ((laws_toIntSS.f k l0).bind fun t464 => ((spec_FriezeText.f k t464).bind fun bt467 => ((laws_toIntSS.f k l0).bind fun t469 => ((impl_FriezeText.f k t469).bind fun bt472 => (if bt472.1.toList = bt467.1.toList then (laws_FnExactFriezeText.j0 k l0 t469 (bt472.2 != bt467.2)) else (laws_FnExactFriezeText.j0 k l0 t469 true)))))))) = some r := h
 clear h; replace H := Option.bind_eq_some_iff.mp H; obtain ⟨t463, A20, H⟩ := H; replace H : (if t463 < 0 then (some true) else ((laws_toIntSS.f k l0).bind fun t464 => ((spec_FriezeText.f k t464).bind fun bt467 => ((laws_toIntSS.f k l0).bind fun t469 => ((impl_FriezeText.f k t469).bind fun bt472 => (if bt472.1.toList = bt467.1.toList then (laws_FnExactFriezeText.j0 k l0 t469 (bt472.2 != bt467.2)) else (laws_FnExactFriezeText.j0 k l0 t469 true))))))) = some r := H
 have A2 := Aside0.mk A20; clear A20
 by_cases c3 : t463 < 0
 ·rw [if_pos c3] at H
  have c3b0 : decide (t463 < 0) = true := decide_eq_true c3; clear c3; obtain rfl := Option.some.inj H
  go_enter Tryd.func3, Tryd.ntmps3
  go_wp2_with (first | ((with_reducible refine gate_callee (f := 4) rfl ?_); refine goesL_ (some 11) rfl rfl Tryd.func4 (by kernel_rfl) rfl #[.slice A0 l0.length c0, .int .i64 1048576] rfl (by (try simp only [List.map_toArray, List.map_cons, List.map_nil]); first | done | rfl | (simp only [List.length_drop, List.length_take]; rfl)) ?_; (with_reducible refine (laws_szIntSS.calls k _ _ l0 1048576 t463 _ ?side1 ?side2 A2.out).mono ?_); (case side1 => repeat (first | exact HR0.out | (with_reducible refine Kd.C_alloc ?_ _) | (with_reducible refine Kd.C_drewN ?_ _) | (with_reducible refine Kd.C_drew ?_))); (case side2 => exact HC0.out); rintro e w' ⟨rfl, ⟨nd, rfl⟩⟩; refine ⟨_, rfl, ?_⟩))
  go_ret
  exact ⟨by first | rfl | (simp [errW_none, errW_some] <;> rfl) | (simp [*, errW_none, errW_some] <;> rfl), bl_ HB.out⟩
 ·rw [if_neg c3] at H
  have c3b0 : decide (t463 < 0) = false := decide_eq_false c3; clear c3; replace H := Option.bind_eq_some_iff.mp H; obtain ⟨t464, A40, H⟩ := H; replace H : ((spec_FriezeText.f k t464).bind fun bt467 => ((laws_toIntSS.f k l0).bind fun t469 => ((impl_FriezeText.f k t469).bind fun bt472 => (if bt472.1.toList = bt467.1.toList then (laws_FnExactFriezeText.j0 k l0 t469 (bt472.2 != bt467.2)) else (laws_FnExactFriezeText.j0 k l0 t469 true))))) = some r := H
  have A4 := Aside0.mk A40; clear A40; replace H := Option.bind_eq_some_iff.mp H; obtain ⟨⟨t467, t468⟩, A50, H⟩ := H; replace H : ((laws_toIntSS.f k l0).bind fun t469 => ((impl_FriezeText.f k t469).bind fun bt472 => (if bt472.1.toList = t467.toList then (laws_FnExactFriezeText.j0 k l0 t469 (bt472.2 != t468)) else (laws_FnExactFriezeText.j0 k l0 t469 true)))) = some r := H
  have A5 := Aside0.mk A50; clear A50; replace H := Option.bind_eq_some_iff.mp H; obtain ⟨t469, A60, H⟩ := H; replace H : ((impl_FriezeText.f k t469).bind fun bt472 => (if bt472.1.toList = t467.toList then (laws_FnExactFriezeText.j0 k l0 t469 (bt472.2 != t468)) else (laws_FnExactFriezeText.j0 k l0 t469 true))) = some r := H
  have A6 := Aside0.mk A60; clear A60; replace H := Option.bind_eq_some_iff.mp H; obtain ⟨⟨t472, t473⟩, A70, H⟩ := H; replace H : (if t472.toList = t467.toList then (laws_FnExactFriezeText.j0 k l0 t469 (t473 != t468)) else (laws_FnExactFriezeText.j0 k l0 t469 true)) = some r := H
  have A7 := Aside0.mk A70; clear A70; have HC8 := Aside0.mk H; clear H
  go_enter Tryd.func3, Tryd.ntmps3
  go_upto_region 8 with (first | ((with_reducible refine gate_callee (f := 4) rfl ?_); refine goesL_ (some 11) rfl rfl Tryd.func4 (by kernel_rfl) rfl #[.slice A0 l0.length c0, .int .i64 1048576] rfl (by (try simp only [List.map_toArray, List.map_cons, List.map_nil]); first | done | rfl | (simp only [List.length_drop, List.length_take]; rfl)) ?_; (with_reducible refine (laws_szIntSS.calls k _ _ l0 1048576 t463 _ ?side1 ?side2 A2.out).mono ?_); (case side1 => repeat (first | exact HR0.out | (with_reducible refine Kd.C_alloc ?_ _) | (with_reducible refine Kd.C_drewN ?_ _) | (with_reducible refine Kd.C_drew ?_))); (case side2 => exact HC0.out); rintro e w' ⟨rfl, ⟨nd, rfl⟩⟩; refine ⟨_, rfl, ?_⟩) | ((with_reducible refine gate_callee (f := 6) rfl ?_); refine goesL_ (some 16) rfl rfl Tryd.func6 (by kernel_rfl) rfl #[.slice A0 l0.length c0] rfl (by (try simp only [List.map_toArray, List.map_cons, List.map_nil]); first | done | rfl | (simp only [List.length_drop, List.length_take]; rfl)) ?_; (with_reducible refine (laws_toIntSS.calls k _ _ l0 t464 _ ?side1 ?side2 A4.out).mono ?_); (case side1 => repeat (first | exact HR0.out | (with_reducible refine Kd.C_alloc ?_ _) | (with_reducible refine Kd.C_drewN ?_ _) | (with_reducible refine Kd.C_drew ?_))); (case side2 => exact HC0.out); rintro e w9 ⟨v465, rfl, ho0, hb⟩; refine ⟨_, rfl, ?_⟩; have n0_ := Aside0.mk (Kd.S_lower ho0 (below_size (bl_ HB.out))); have n1_ := Aside0.mk (below_step (bl_ HB.out) hb); clear HB; have HO466 := n0_; have HB := n1_; clear n0_ n1_; (try clear hb); (try clear hb2); (try clear hk); (try clear hi); (try clear ho0); obtain ⟨Ao10, co10, eo10⟩ := Kd.S_slice HO466.out; subst eo10) | ((with_reducible refine gate_callee (f := 5) rfl ?_); refine goesL_ (some 17) rfl rfl Tryd.func5 (by kernel_rfl) rfl #[.slice Ao10 t464.length co10] rfl (by (try simp only [List.map_toArray, List.map_cons, List.map_nil]); first | done | rfl | (simp only [List.length_drop, List.length_take]; rfl)) ?_; (with_reducible refine (spec_FriezeText.calls k _ _ t464 t467 t468 _ ?side1 ?side2 A5.out).mono ?_); (case side1 => repeat (first | exact (Kd.S_reads' HO466.out).2.2 | (with_reducible refine Kd.C_alloc ?_ _) | (with_reducible refine Kd.C_drewN ?_ _) | (with_reducible refine Kd.C_drew ?_))); (case side2 => exact (Kd.S_reads' HO466.out).2.1); rintro e w11 ⟨rfl, hb⟩; refine ⟨_, rfl, ?_⟩; have n0_ := Aside0.mk (Kd.S_below (by (with_reducible repeat (first | apply Kd.S_alloc | apply Kd.S_drewN | apply Kd.S_drew)); exact HO466.out) hb); have n1_ := Aside0.mk (below_step (bl_ HB.out) hb); clear HO466; clear HB; have HO466 := n0_; have HB := n1_; clear n0_ n1_; (try clear hb); (try clear hb2); (try clear hk); (try clear hi)) | ((with_reducible refine gate_callee (f := 6) rfl ?_); refine goesL_ (some 21) rfl rfl Tryd.func6 (by kernel_rfl) rfl #[.slice A0 l0.length c0] rfl (by (try simp only [List.map_toArray, List.map_cons, List.map_nil]); first | done | rfl | (simp only [List.length_drop, List.length_take]; rfl)) ?_; (with_reducible refine (laws_toIntSS.calls k _ _ l0 t469 _ ?side1 ?side2 A6.out).mono ?_); (case side1 => repeat (first | exact (Kd.C_below HR0.out HB.out) | (with_reducible refine Kd.C_alloc ?_ _) | (with_reducible refine Kd.C_drewN ?_ _) | (with_reducible refine Kd.C_drew ?_))); (case side2 => exact HC0.out); rintro e w12 ⟨v470, rfl, ho0, hb⟩; refine ⟨_, rfl, ?_⟩; have n0_ := Aside0.mk (Kd.S_elder' (by (with_reducible repeat (first | apply Kd.S_alloc | apply Kd.S_drewN | apply Kd.S_drew)); exact HO466.out) (Kd.S_base ho0) hb); have n1_ := Aside0.mk (Kd.S_lower (Kd.S_new' ho0 (Kd.S_lt (by (with_reducible repeat (first | apply Kd.S_alloc | apply Kd.S_drewN | apply Kd.S_drew)); exact HO466.out))) (below_size (bl_ HB.out))); have n2_ := Aside0.mk (below_step (bl_ HB.out) hb); clear HO466; clear HB; have HO466 := n0_; have HO471 := n1_; have HB := n2_; clear n0_ n1_ n2_; (try clear hb); (try clear hb2); (try clear hk); (try clear hi); (try clear ho0); obtain ⟨Ao13, co13, eo13⟩ := Kd.S_slice HO471.out; subst eo13) | ((with_reducible refine gate_callee (f := 7) rfl ?_); refine goesL_ (some 24) rfl rfl Tryd.func7 (by kernel_rfl) rfl #[.slice Ao13 t469.length co13] rfl (by (try simp only [List.map_toArray, List.map_cons, List.map_nil]); first | done | rfl | (simp only [List.length_drop, List.length_take]; rfl)) ?_; (with_reducible refine (impl_FriezeText.calls k _ _ t469 t472 t473 _ ?side1 ?side2 A7.out (strconv_Itoa.tab HTAB.out (bl_ HB.out))).mono ?_); (case side1 => repeat (first | exact (Kd.S_reads' HO471.out).2.2 | (with_reducible refine Kd.C_alloc ?_ _) | (with_reducible refine Kd.C_drewN ?_ _) | (with_reducible refine Kd.C_drew ?_))); (case side2 => exact (Kd.S_reads' HO471.out).2.1); rintro e w14 ⟨rfl, hb⟩; refine ⟨_, rfl, ?_⟩; have n0_ := Aside0.mk (Kd.S_below (by (with_reducible repeat (first | apply Kd.S_alloc | apply Kd.S_drewN | apply Kd.S_drew)); exact HO466.out) hb); have n1_ := Aside0.mk (Kd.S_below (by (with_reducible repeat (first | apply Kd.S_alloc | apply Kd.S_drewN | apply Kd.S_drew)); exact HO471.out) hb); have n2_ := Aside0.mk (below_step (bl_ HB.out) hb); clear HO466; clear HO471; clear HB; have HO466 := n0_; have HO471 := n1_; have HB := n2_; clear n0_ n1_ n2_; (try clear hb); (try clear hb2); (try clear hk); (try clear hi)))
  (try simp only [Act.put, List.setIfInBounds_toArray, List.set_cons_zero, List.set_cons_succ])
  go_cut [34] (fun v34 wc => ∃ (kq : Nat) (x34_7 : Bool), v34 = .bool x34_7 ∧ Aside0 (laws_FnExactFriezeText.j0 kq l0 t469 x34_7 = some r) ∧ Aside0 (kq ≤ k) ∧ Aside0 (Kd.S (Kd.slice 3 (Kd.int .i64)) 30 wc w.heap.size (fun _ => True) (.slice Ao13 t469.length co13) t469) ∧ Aside0 (Below w.heap.size w wc))
  case first =>
   have H := HC8.out; clear HC8
   by_cases c15 : t472.toList = t467.toList
   ·rw [if_pos c15] at H
    have c15b0 : (t472.toList == t467.toList) = true := beq_iff_eq.mpr c15; have c15b1 : (t472.toList != t467.toList) = false := bne_eq_false_iff_eq.mpr c15; clear c15
    (first | rw [c15b0] | (simp only [i64_w, i32_w]; rw [c15b0]) | skip)
    have H' := Aside0.mk H; clear H
    go_wp2
    go_meet
    case rel => exact ⟨_, ((t473 != t468)), (fs_), H', ⟨by first | omega | exact Nat.le_refl _⟩, ⟨by (with_reducible repeat (first | apply Kd.S_alloc | apply Kd.S_drewN | apply Kd.S_drew)); exact Kd.S_mono HO471.out (fun _ hk => trivial)⟩, ⟨bl_ HB.out⟩⟩
   ·rw [if_neg c15] at H
    have c15b0 : (t472.toList == t467.toList) = false := beq_eq_false_iff_ne.mpr c15; have c15b1 : (t472.toList != t467.toList) = true := bne_iff_ne.mpr c15
    (first | rw [c15b0] | (simp only [i64_w, i32_w]; rw [c15b0]) | skip)
    have H' := Aside0.mk H; clear H
    go_wp2
    go_meet
    case rel => exact ⟨_, (true), (fs_), H', ⟨by first | omega | exact Nat.le_refl _⟩, ⟨by (with_reducible repeat (first | apply Kd.S_alloc | apply Kd.S_drewN | apply Kd.S_drew)); exact Kd.S_mono HO471.out (fun _ hk => trivial)⟩, ⟨bl_ HB.out⟩⟩
  case rest =>
   clear HC8
   try clear c1
   try clear p2
   try clear c3
   try clear c3b0
   try clear c4
   try clear c5
   try clear c6
   try clear c7
   try clear c15
   try clear c15b0
   try clear c15b1
   obtain ⟨kq, x34_7, rfl, HA, HJ7, HO_6, HB⟩ := hcut
   cases kq with
   | zero => exact absurd HA.out (by simp [laws_FnExactFriezeText.j0])
   | succ kj7 =>
    have H := HA.out; clear HA
    simp only [laws_FnExactFriezeText.j0] at H
    by_cases c16 : x34_7 = true
    ·subst c16
     have H1 : (none) = some r := by rw [if_pos rfl] at H; exact H
     clear H; have H := H1; clear H1; exact absurd H (by simp)
    ·replace c16 := Bool.eq_false_iff.mpr c16
     subst c16; have H1 : ((laws_toIntSS.f kj7 l0).bind fun t474 => ((laws_eqIntSS.f kj7 t469 t474).bind fun t477 => (if t477 = true then (some true) else (none)))) = some r := by rw [if_neg (show ¬ (false = true) by decide)] at H; exact H
     clear H; have H := H1; clear H1; replace H := Option.bind_eq_some_iff.mp H; obtain ⟨t474, A170, H⟩ := H; replace H : ((laws_eqIntSS.f kj7 t469 t474).bind fun t477 => (if t477 = true then (some true) else (none))) = some r := H
     have A17 := Aside0.mk A170; clear A170; replace H := Option.bind_eq_some_iff.mp H; obtain ⟨t477, A180, H⟩ := H; replace H : (if t477 = true then (some true) else (none)) = some r := H
     have A18 := Aside0.mk A180; clear A180
     by_cases c19 : t477 = true
     ·subst c19
      have H1 : (some true) = some r := by rw [if_pos rfl] at H; exact H
      clear H; have H := H1; clear H1; obtain rfl := Option.some.inj H
      go_wp2_with (first | ((with_reducible refine gate_callee (f := 6) rfl ?_); refine goesL_ (some 37) rfl rfl Tryd.func6 (by kernel_rfl) rfl #[.slice A0 l0.length c0] rfl (by (try simp only [List.map_toArray, List.map_cons, List.map_nil]); first | done | rfl | (simp only [List.length_drop, List.length_take]; rfl)) ?_; (with_reducible refine (laws_toIntSS.calls kj7 _ _ l0 t474 _ ?side1 ?side2 A17.out).mono ?_); (case side1 => repeat (first | exact (Kd.C_below HR0.out HB.out) | (with_reducible refine Kd.C_alloc ?_ _) | (with_reducible refine Kd.C_drewN ?_ _) | (with_reducible refine Kd.C_drew ?_))); (case side2 => exact HC0.out); rintro e w20 ⟨v475, rfl, ho0, hb⟩; refine ⟨_, rfl, ?_⟩; have n0_ := Aside0.mk (Kd.S_elder' (by (with_reducible repeat (first | apply Kd.S_alloc | apply Kd.S_drewN | apply Kd.S_drew)); exact HO_6.out) (Kd.S_base ho0) hb); have n1_ := Aside0.mk (Kd.S_lower (Kd.S_new' ho0 (Kd.S_lt (by (with_reducible repeat (first | apply Kd.S_alloc | apply Kd.S_drewN | apply Kd.S_drew)); exact HO_6.out))) (below_size (bl_ HB.out))); have n2_ := Aside0.mk (below_step (bl_ HB.out) hb); clear HO_6; clear HB; have HO_6 := n0_; have HO476 := n1_; have HB := n2_; clear n0_ n1_ n2_; (try clear hb); (try clear hb2); (try clear hk); (try clear hi); (try clear ho0); obtain ⟨Ao21, co21, eo21⟩ := Kd.S_slice HO476.out; subst eo21) | ((with_reducible refine gate_callee (f := 8) rfl ?_); refine goesL_ (some 38) rfl rfl Tryd.func8 (by kernel_rfl) rfl #[.slice Ao13 t469.length co13, .slice Ao21 t474.length co21] rfl (by (try simp only [List.map_toArray, List.map_cons, List.map_nil]); first | done | rfl | (simp only [List.length_drop, List.length_take]; rfl)) ?_; (with_reducible refine (laws_eqIntSS.calls kj7 _ _ t469 _ _ t474 true _ ?side1 ?side2 ?side3 ?side4 A18.out).mono ?_); (case side1 => repeat (first | exact (Kd.S_reads' HO_6.out).2.2 | (with_reducible refine Kd.C_alloc ?_ _) | (with_reducible refine Kd.C_drewN ?_ _) | (with_reducible refine Kd.C_drew ?_))); (case side2 => exact (Kd.S_reads' HO_6.out).2.1); (case side3 => repeat (first | exact (Kd.S_reads' HO476.out).2.2 | (with_reducible refine Kd.C_alloc ?_ _) | (with_reducible refine Kd.C_drewN ?_ _) | (with_reducible refine Kd.C_drew ?_))); (case side4 => exact (Kd.S_reads' HO476.out).2.1); rintro e w' ⟨rfl, ⟨nd, rfl⟩⟩; refine ⟨_, rfl, ?_⟩))
      go_ret
      exact ⟨by first | rfl | (simp [errW_none, errW_some] <;> rfl) | (simp [*, errW_none, errW_some] <;> rfl), bl_ HB.out⟩
     ·replace c19 := Bool.eq_false_iff.mpr c19
      subst c19; have H1 : (none) = some r := by rw [if_neg (show ¬ (false = true) by decide)] at H; exact H
      clear H; have H := H1; clear H1; exact absurd H (by simp)
def laws_FnExactFriezeText.Pure : Prop := ∀ (l0 : List (List Int)), l0.length ≤ 9223372036854775807 → (∀ y ∈ l0, y.length ≤ 9223372036854775807 ∧ ∀ x ∈ y, (Lit.int .i64 x).wf = true) → ∃ k, laws_FnExactFriezeText.f k l0 = some true
end Go.Proofs.YtmpmmhmnjdkgcaaDoor.PFnExactFriezeText
