-- Written for this claim by a program of this session (wip/tools/xprint.py over the kit's printer, wip/tools/shrink.py).
import Derived.Test.YtcfcnnnkpdhecaaDoorPFnExactParseDiagonalsx0
import Derived.Test.YtcfcnnnkpdhecaaDoorPFnExactParseDiagonalsx3
import Derived.Test.YtcfcnnnkpdhecaaDoorPFnExactParseDiagonalsx4
import Derived.Test.YtcfcnnnkpdhecaaDoorPFnExactParseDiagonalsx5
import Derived.Test.YtcfcnnnkpdhecaaDoorPFnExactParseDiagonalsx6
namespace Go.Proofs.YtcfcnnnkpdhecaaDoor.PFnExactParseDiagonals
open Go.RowKit Go.Proofs.YtcfcnnnkpdhecaaDoorW.PrintWords Go.Proofs.YtcfcnnnkpdhecaaDoorW.PrintLast Go.Proofs.YtcfcnnnkpdhecaaDoorW.PrintMore
attribute [local go_sem] max2_int min2_int max_two min_two max_three min_three max_four min_four   -- for this text's walks alone
set_option linter.unusedVariables false
set_option linter.unusedSimpArgs false
mutual
def laws_FnExactParseDiagonals.j0 : Nat → ByteArray → List (S37) → Bool → List (S37) → Bool → Option (Bool)
 | 0, _, _, _, _, _ => none
 | k + 1, x0, x3, x4, x5, x32 => if x32 = true then (none) else ((laws_markDiagonalS.f k x5 1).bind fun bt186 => ((laws_heldDiagonalS.f k bt186.2 1).bind fun t188 => (if t188 < 0 then (none) else (if t188 = bt186.1 then ((impl_ParseDiagonals.f k x0).bind fun bt189 => ((laws_eqDiagonalS.f k bt189.1 x3).bind fun t193 => (if t193 = true then (laws_FnExactParseDiagonals.j1 k bt186.2 bt186.1 (bt189.2 != x4)) else (laws_FnExactParseDiagonals.j1 k bt186.2 bt186.1 true)))) else (none)))))
def laws_FnExactParseDiagonals.j1 : Nat → List (S37) → Int → Bool → Option (Bool)
 | 0, _, _, _ => none
 | k + 1, x5, x7, x57 => if x57 = true then (none) else ((laws_heldDiagonalS.f k x5 1).bind fun t194 => (if t194 < 0 then (none) else (if t194 = x7 then (some true) else (none))))
end
def laws_FnExactParseDiagonals.f (k : Nat) (a0 : ByteArray) : Option (Bool) := if (a0.size : Int) > 1048576 then (some true) else ((spec_ParseDiagonals.f k a0).bind fun bt177 => ((impl_ParseDiagonals.f k a0).bind fun bt181 => ((laws_eqDiagonalS.f k bt181.1 bt177.1).bind fun t185 => (if t185 = true then (laws_FnExactParseDiagonals.j0 k a0 bt177.1 bt177.2 bt181.1 (bt181.2 != bt177.2)) else (laws_FnExactParseDiagonals.j0 k a0 bt177.1 bt177.2 bt181.1 true)))))
set_option maxHeartbeats 8000000 in
set_option maxRecDepth 100000 in
theorem laws_FnExactParseDiagonals.calls (k : Nat) (a0 : ByteArray) (r : Bool) (w : World) (h : laws_FnExactParseDiagonals.f k a0 = some r) (hglob : strings_SplitN.Glob w) :
  Calls Tryd.prog 3 #[.string a0] w fun e w' => e = .returned (.bool r) ∧ Below w.heap.size w w' := by
 have HGL := Aside0.mk hglob; clear hglob; have HB := Aside0.mk (Below.refl w.heap.size w); have H : (if (a0.size : Int) > 1048576 then (some true) else ((spec_ParseDiagonals.f k a0).bind fun bt177 => ((impl_ParseDiagonals.f k a0).bind fun bt181 => ((laws_eqDiagonalS.f k bt181.1 bt177.1).bind fun t185 => (if t185 = true then (laws_FnExactParseDiagonals.j0 k a0 bt177.1 bt177.2 bt181.1 (bt181.2 != bt177.2)) else (laws_FnExactParseDiagonals.j0 k a0 bt177.1 bt177.2 bt181.1 true)))))) = some r := h
 clear h
 by_cases c2 : (a0.size : Int) > 1048576
 ·rw [if_pos c2] at H
  have c2b0 : decide (1048576 < (a0.size : Int)) = true := decide_eq_true c2; have c2b1 : decide (1048576 < a0.size) = true := decide_eq_true (by omega)
  clear c2; obtain rfl := Option.some.inj H
  go_enter Tryd.func3, Tryd.ntmps3
  go_wp2
  go_ret
  exact ⟨by first | rfl | (simp [errW_none, errW_some] <;> rfl) | (simp [*, errW_none, errW_some] <;> rfl), bl_ HB.out⟩
 ·rw [if_neg c2] at H
  have c2b0 : decide (1048576 < (a0.size : Int)) = false := decide_eq_false c2; have c2b1 : decide (1048576 < a0.size) = false := decide_eq_false (by omega)
  clear c2; replace H := Option.bind_eq_some_iff.mp H; obtain ⟨⟨t177, t178⟩, A30, H⟩ := H; have A3 := Aside0.mk A30; clear A30; replace H := Option.bind_eq_some_iff.mp H; obtain ⟨⟨t181, t182⟩, A40, H⟩ := H; have A4 := Aside0.mk A40; clear A40; have HC5 := Aside0.mk H; clear H
  go_enter Tryd.func3, Tryd.ntmps3
  go_upto_region 5 with (first | ((with_reducible refine gate_callee (f := 4) rfl ?_); refine gl_ (some 16) Tryd.func4 #[.string a0] rfl ?_; (with_reducible refine (spec_ParseDiagonals.calls k a0 t177 t178 _ A3.out).mono ?_); rintro e w6 ⟨v179, rfl, ho0, hb⟩; refine ⟨_, rfl, ?_⟩; have HO180 := Aside0.mk (Kd.R_lower ho0 (below_size (bl_ HB.out))); replace HB := Aside0.mk (below_step (bl_ HB.out) hb); (try clear hb); (try clear hb2); (try clear hk); (try clear hi); (try clear ho0)) | ((with_reducible refine gate_callee (f := 5) rfl ?_); refine gl_ (some 21) Tryd.func5 #[.string a0] rfl ?_; (with_reducible refine (impl_ParseDiagonals.calls k a0 t181 t182 _ A4.out (strings_SplitN.Glob.mv HGL.out (bl_ HB.out))).mono ?_); rintro e w7 ⟨v183, rfl, ho0, hb⟩; refine ⟨_, rfl, ?_⟩; have HO184 := Aside0.mk (Kd.R_lower (Kd.R_new' ho0 (Kd.R_lt (kr_ HO180.out))) (below_size (bl_ HB.out))); replace HO180 := Aside0.mk (Kd.R_elder' (kr_ HO180.out) (Kd.R_base ho0) hb); replace HB := Aside0.mk (below_step (bl_ HB.out) hb); (try clear hb); (try clear hb2); (try clear hk); (try clear hi); (try clear ho0)))
  (try simp only [Act.put, List.setIfInBounds_toArray, List.set_cons_zero, List.set_cons_succ])
  go_cut [32] (fun v32 wc => ∃ (kq : Nat) (x32_4 : Bool), v32 = .bool x32_4 ∧ Aside0 (laws_FnExactParseDiagonals.j0 kq a0 t177 t178 t181 x32_4 = some r) ∧ Aside0 (kq ≤ k) ∧ Aside0 (Kd.R k37 37 wc w.heap.size (fun k_ => some k_ ≠ (v183 : Value).ownBlock) v179 t177) ∧ Aside0 (Kd.R k37 37 wc w.heap.size (fun k_ => some k_ ≠ (v179 : Value).ownBlock) v183 t181) ∧ Aside0 (Below w.heap.size w wc))
  case first =>
   have H := HC5.out; clear HC5; replace H := Option.bind_eq_some_iff.mp H; obtain ⟨t185, A80, H⟩ := H; have A8 := Aside0.mk A80; clear A80
   by_cases c9 : t185 = true
   ·subst c9
    rw [if_pos rfl] at H
    have H' := Aside0.mk H; clear H; obtain ⟨Ao10, co10, eo10⟩ := Kd.R_slice HO184.out; subst eo10; obtain ⟨Ao11, co11, eo11⟩ := Kd.R_slice HO180.out; subst eo11
    go_wp2_with (first | ((with_reducible refine gate_callee (f := 6) rfl ?_); refine gl_ (some 26) Tryd.func6 #[.slice Ao10 t181.length co10, .slice Ao11 t177.length co11] rfl ?_; (with_reducible refine (laws_eqDiagonalS.calls k _ _ t181 _ _ t177 true _ ?side1 ?side2 ?side3 ?side4 A8.out).mono ?_); (case side1 => exact cc_ (Kd.R_reads' HO184.out).2.2); (case side2 => exact (Kd.R_reads' HO184.out).2.1); (case side3 => exact cc_ (Kd.R_reads' HO180.out).2.2); (case side4 => exact (Kd.R_reads' HO180.out).2.1); rintro e w12 ⟨rfl, hb⟩; refine ⟨_, rfl, ?_⟩; replace HO180 := Aside0.mk (Kd.R_below (kr_ HO180.out) hb); replace HO184 := Aside0.mk (Kd.R_below (kr_ HO184.out) hb); replace HB := Aside0.mk (below_step (bl_ HB.out) hb); (try clear hb); (try clear hb2); (try clear hk); (try clear hi)))
    go_meet
    case rel => exact ⟨_, ((t182 != t178)), (fs_), H', ⟨by first | omega | exact Nat.le_refl _⟩, ⟨by (with_reducible repeat (first | apply Kd.R_alloc | apply Kd.R_drewN | apply Kd.R_drew)); exact Kd.R_mono HO180.out (fun _ hk => hk.2)⟩, ⟨by (with_reducible repeat (first | apply Kd.R_alloc | apply Kd.R_drewN | apply Kd.R_drew)); exact Kd.R_mono HO184.out (fun _ hk => hk.2)⟩, ⟨bl_ HB.out⟩⟩
   ·replace c9 := Bool.eq_false_iff.mpr c9
    subst c9; rw [if_neg (show ¬ (false = true) by decide)] at H
    have H' := Aside0.mk H; clear H; obtain ⟨Ao13, co13, eo13⟩ := Kd.R_slice HO184.out; subst eo13; obtain ⟨Ao14, co14, eo14⟩ := Kd.R_slice HO180.out; subst eo14
    go_wp2_with (first | ((with_reducible refine gate_callee (f := 6) rfl ?_); refine gl_ (some 26) Tryd.func6 #[.slice Ao13 t181.length co13, .slice Ao14 t177.length co14] rfl ?_; (with_reducible refine (laws_eqDiagonalS.calls k _ _ t181 _ _ t177 false _ ?side1 ?side2 ?side3 ?side4 A8.out).mono ?_); (case side1 => exact cc_ (Kd.R_reads' HO184.out).2.2); (case side2 => exact (Kd.R_reads' HO184.out).2.1); (case side3 => exact cc_ (Kd.R_reads' HO180.out).2.2); (case side4 => exact (Kd.R_reads' HO180.out).2.1); rintro e w15 ⟨rfl, hb⟩; refine ⟨_, rfl, ?_⟩; replace HO180 := Aside0.mk (Kd.R_below (kr_ HO180.out) hb); replace HO184 := Aside0.mk (Kd.R_below (kr_ HO184.out) hb); replace HB := Aside0.mk (below_step (bl_ HB.out) hb); (try clear hb); (try clear hb2); (try clear hk); (try clear hi)))
    go_meet
    case rel => exact ⟨_, (true), (fs_), H', ⟨by first | omega | exact Nat.le_refl _⟩, ⟨by (with_reducible repeat (first | apply Kd.R_alloc | apply Kd.R_drewN | apply Kd.R_drew)); exact Kd.R_mono HO180.out (fun _ hk => hk.2)⟩, ⟨by (with_reducible repeat (first | apply Kd.R_alloc | apply Kd.R_drewN | apply Kd.R_drew)); exact Kd.R_mono HO184.out (fun _ hk => hk.2)⟩, ⟨bl_ HB.out⟩⟩
  case rest =>
   clear HC5
   try clear c2
   try clear c2b0
   try clear c2b1
   try clear p2
   try clear c3
   try clear c4
   try clear c5
   try clear c6
   try clear c9
   obtain ⟨kq, x32_4, rfl, HA, HJ4, HO_3, HO_5, HB⟩ := hcut
   cases kq with
   | zero => exact absurd HA.out (by simp [laws_FnExactParseDiagonals.j0])
   | succ kj4 =>
    have H := HA.out; clear HA
    simp only [laws_FnExactParseDiagonals.j0] at H
    by_cases c16 : x32_4 = true
    ·subst c16
     rw [if_pos rfl] at H
     exact absurd H (by simp)
    ·replace c16 := Bool.eq_false_iff.mpr c16
     subst c16; rw [if_neg (show ¬ (false = true) by decide)] at H
     replace H := Option.bind_eq_some_iff.mp H; obtain ⟨⟨t186, t187⟩, A170, H⟩ := H; have A17 := Aside0.mk A170; clear A170; replace H := Option.bind_eq_some_iff.mp H; obtain ⟨t188, A180, H⟩ := H; have A18 := Aside0.mk A180; clear A180
     by_cases c19 : t188 < 0
     ·rw [if_pos c19] at H
      exact absurd H (by simp)
     ·rw [if_neg c19] at H
      have c19b0 : decide (t188 < 0) = false := decide_eq_false c19; clear c19
      by_cases c20 : t188 = t186
      ·rw [if_pos c20] at H
       have c20b0 : (t188 == t186) = true := beq_iff_eq.mpr c20; have c20b1 : (t188 != t186) = false := bne_eq_false_iff_eq.mpr c20; clear c20; replace H := Option.bind_eq_some_iff.mp H; obtain ⟨⟨t189, t190⟩, A210, H⟩ := H; have A21 := Aside0.mk A210; clear A210; have HC22 := Aside0.mk H; clear H; obtain ⟨Ao23, co23, eo23⟩ := Kd.R_slice HO_5.out; subst eo23
       go_upto_region 16 with (first | ((with_reducible refine gate_callee (f := 7) rfl ?_); refine gl_ (some 35) Tryd.func7 #[.slice Ao23 t181.length co23, .int .i64 1] rfl ?_; (with_reducible refine (laws_markDiagonalS.calls kj4 (fun k_ => some k_ = (.slice Ao23 t181.length co23 : Value).ownBlock) (.slice Ao23 t181.length co23) t181 1 t186 t187 w _ ?side1 ?side2 A17.out).mono ?_); (case side1 => exact bl_ HB.out); (case side2 => exact Kd.R_tight rfl HO_5.out); rintro e w24 ⟨rfl, hy0, hb, hkp⟩; refine ⟨_, rfl, ?_⟩; replace HO_3 := Aside0.mk (Kd.R_mono (ok' := fun k_ => some k_ ≠ (.slice Ao23 t181.length co23 : Value).ownBlock) (Kd.R_keptB (HO_3.out) hkp (fun k_ hk_ hs_ => (hk_) hs_)) (fun k_ hk_ => hk_.1)); replace HO_5 := Aside0.mk (Kd.R_reok rfl hy0 (fun k_ e_ => HO_5.out.1 k_ e_)); replace HB := Aside0.mk (hb); (try clear hb); (try clear hkp); (try clear hy0)) | ((with_reducible refine gate_callee (f := 8) rfl ?_); refine goesL_ (some 38) rfl rfl Tryd.func8 (by kernel_rfl) rfl #[.slice Ao23 t187.length co23, .int .i64 1] rfl (by (try simp only [List.map_toArray, List.map_cons, List.map_nil]); first | done | (rw [show t187.length = t181.length from (Kd.R_reads' HO_5.out).1.symm] <;> rfl) | rfl | (simp only [List.length_drop, List.length_take]; rfl)) ?_; (with_reducible refine (laws_heldDiagonalS.calls kj4 _ _ t187 1 t188 _ ?side1 ?side2 A18.out).mono ?_); (case side1 => exact cc_ (Kd.R_reads' HO_5.out).2.2); (case side2 => rw [show t187.length = t181.length from (Kd.R_reads' HO_5.out).1.symm]; exact (Kd.R_reads' HO_5.out).2.1); rintro e w' ⟨rfl, ⟨nd, rfl⟩⟩; refine ⟨_, rfl, ?_⟩) | ((with_reducible refine gate_callee (f := 5) rfl ?_); refine gl_ (some 46) Tryd.func5 #[.string a0] rfl ?_; (with_reducible refine (impl_ParseDiagonals.calls kj4 a0 t189 t190 _ A21.out (strings_SplitN.Glob.mv HGL.out (bl_ HB.out))).mono ?_); rintro e w25 ⟨v191, rfl, ho0, hb⟩; refine ⟨_, rfl, ?_⟩; have HO192 := Aside0.mk (Kd.R_lower (Kd.R_new' (Kd.R_new' ho0 (Kd.R_lt (kr_ HO_3.out))) (Kd.R_lt (kr_ HO_5.out))) (below_size (bl_ HB.out))); replace HO_3 := Aside0.mk (Kd.R_elder' (kr_ HO_3.out) (Kd.R_base ho0) hb); replace HO_5 := Aside0.mk (Kd.R_elder' (kr_ HO_5.out) (Kd.R_base ho0) hb); replace HB := Aside0.mk (below_step (bl_ HB.out) hb); (try clear hb); (try clear hb2); (try clear hk); (try clear hi); (try clear ho0)))
       (try simp only [Act.put, List.setIfInBounds_toArray, List.set_cons_zero, List.set_cons_succ])
       go_cut [57] (fun v57 wc => ∃ (kq : Nat) (x57_21 : Bool), v57 = .bool x57_21 ∧ Aside0 (laws_FnExactParseDiagonals.j1 kq t187 t186 x57_21 = some r) ∧ Aside0 (kq ≤ kj4) ∧ Aside0 (Kd.R k37 37 wc w.heap.size (fun _ => True) (.slice Ao23 t181.length co23) t187) ∧ Aside0 (Below w.heap.size w wc))
       case first =>
        have H := HC22.out; clear HC22; replace H := Option.bind_eq_some_iff.mp H; obtain ⟨t193, A260, H⟩ := H; have A26 := Aside0.mk A260; clear A260
        by_cases c27 : t193 = true
        ·subst c27
         rw [if_pos rfl] at H
         have H' := Aside0.mk H; clear H; obtain ⟨Ao28, co28, eo28⟩ := Kd.R_slice HO192.out; subst eo28; obtain ⟨Ao29, co29, eo29⟩ := Kd.R_slice HO_3.out; subst eo29
         go_wp2_with (first | ((with_reducible refine gate_callee (f := 6) rfl ?_); refine gl_ (some 51) Tryd.func6 #[.slice Ao28 t189.length co28, .slice Ao29 t177.length co29] rfl ?_; (with_reducible refine (laws_eqDiagonalS.calls kj4 _ _ t189 _ _ t177 true _ ?side1 ?side2 ?side3 ?side4 A26.out).mono ?_); (case side1 => exact cc_ (Kd.R_reads' HO192.out).2.2); (case side2 => exact (Kd.R_reads' HO192.out).2.1); (case side3 => exact cc_ (Kd.R_reads' HO_3.out).2.2); (case side4 => exact (Kd.R_reads' HO_3.out).2.1); rintro e w30 ⟨rfl, hb⟩; refine ⟨_, rfl, ?_⟩; replace HO_3 := Aside0.mk (Kd.R_below (kr_ HO_3.out) hb); replace HO_5 := Aside0.mk (Kd.R_below (kr_ HO_5.out) hb); replace HO192 := Aside0.mk (Kd.R_below (kr_ HO192.out) hb); replace HB := Aside0.mk (below_step (bl_ HB.out) hb); (try clear hb); (try clear hb2); (try clear hk); (try clear hi)))
         go_meet
         case rel => exact ⟨_, ((t190 != t178)), (fs_), H', ⟨by have := HJ4.out; first | omega | exact Nat.le_refl _⟩, ⟨by (with_reducible repeat (first | apply Kd.R_alloc | apply Kd.R_drewN | apply Kd.R_drew)); exact Kd.R_mono HO_5.out (fun _ hk => trivial)⟩, ⟨bl_ HB.out⟩⟩
        ·replace c27 := Bool.eq_false_iff.mpr c27
         subst c27; rw [if_neg (show ¬ (false = true) by decide)] at H
         have H' := Aside0.mk H; clear H; obtain ⟨Ao31, co31, eo31⟩ := Kd.R_slice HO192.out; subst eo31; obtain ⟨Ao32, co32, eo32⟩ := Kd.R_slice HO_3.out; subst eo32
         go_wp2_with (first | ((with_reducible refine gate_callee (f := 6) rfl ?_); refine gl_ (some 51) Tryd.func6 #[.slice Ao31 t189.length co31, .slice Ao32 t177.length co32] rfl ?_; (with_reducible refine (laws_eqDiagonalS.calls kj4 _ _ t189 _ _ t177 false _ ?side1 ?side2 ?side3 ?side4 A26.out).mono ?_); (case side1 => exact cc_ (Kd.R_reads' HO192.out).2.2); (case side2 => exact (Kd.R_reads' HO192.out).2.1); (case side3 => exact cc_ (Kd.R_reads' HO_3.out).2.2); (case side4 => exact (Kd.R_reads' HO_3.out).2.1); rintro e w33 ⟨rfl, hb⟩; refine ⟨_, rfl, ?_⟩; replace HO_3 := Aside0.mk (Kd.R_below (kr_ HO_3.out) hb); replace HO_5 := Aside0.mk (Kd.R_below (kr_ HO_5.out) hb); replace HO192 := Aside0.mk (Kd.R_below (kr_ HO192.out) hb); replace HB := Aside0.mk (below_step (bl_ HB.out) hb); (try clear hb); (try clear hb2); (try clear hk); (try clear hi)))
         go_meet
         case rel => exact ⟨_, (true), (fs_), H', ⟨by have := HJ4.out; first | omega | exact Nat.le_refl _⟩, ⟨by (with_reducible repeat (first | apply Kd.R_alloc | apply Kd.R_drewN | apply Kd.R_drew)); exact Kd.R_mono HO_5.out (fun _ hk => trivial)⟩, ⟨bl_ HB.out⟩⟩
       case rest =>
        clear HC22
        try clear c1
        try clear c2
        try clear c2b0
        try clear c2b1
        try clear p2
        try clear c3
        try clear c4
        try clear c5
        try clear c6
        try clear c7
        try clear c8
        try clear c9
        try clear c16
        try clear c19
        try clear c19b0
        try clear c20
        try clear c20b0
        try clear c20b1
        try clear c27
        try clear p2
        obtain ⟨kq, x57_21, rfl, HA, HJ21, HO_5, HB⟩ := hcut; have hl5_21 := (Kd.R_reads' HO_5.out).1; rw [hl5_21] at HO_5
        (try simp only [hl5_21])
        cases kq with
        | zero => exact absurd HA.out (by simp [laws_FnExactParseDiagonals.j1])
        | succ kj21 =>
         have H := HA.out; clear HA
         simp only [laws_FnExactParseDiagonals.j1] at H
         by_cases c34 : x57_21 = true
         ·subst c34
          rw [if_pos rfl] at H
          exact absurd H (by simp)
         ·replace c34 := Bool.eq_false_iff.mpr c34
          subst c34; rw [if_neg (show ¬ (false = true) by decide)] at H
          replace H := Option.bind_eq_some_iff.mp H; obtain ⟨t194, A350, H⟩ := H; have A35 := Aside0.mk A350; clear A350
          by_cases c36 : t194 < 0
          ·rw [if_pos c36] at H
           exact absurd H (by simp)
          ·rw [if_neg c36] at H
           have c36b0 : decide (t194 < 0) = false := decide_eq_false c36; clear c36
           by_cases c37 : t194 = t186
           ·rw [if_pos c37] at H
            have c37b0 : (t194 == t186) = true := beq_iff_eq.mpr c37; have c37b1 : (t194 != t186) = false := bne_eq_false_iff_eq.mpr c37; clear c37; obtain rfl := Option.some.inj H
            go_wp2_with (first | ((with_reducible refine gate_callee (f := 8) rfl ?_); refine gl_ (some 60) Tryd.func8 #[.slice Ao23 t187.length co23, .int .i64 1] rfl ?_; (with_reducible refine (laws_heldDiagonalS.calls kj21 _ _ t187 1 t194 _ ?side1 ?side2 A35.out).mono ?_); (case side1 => exact cc_ (Kd.R_reads' HO_5.out).2.2); (case side2 => exact (Kd.R_reads' HO_5.out).2.1); rintro e w' ⟨rfl, ⟨nd, rfl⟩⟩; refine ⟨_, rfl, ?_⟩))
            go_ret
            exact ⟨by first | rfl | (simp [errW_none, errW_some] <;> rfl) | (simp [*, errW_none, errW_some] <;> rfl), bl_ HB.out⟩
           ·rw [if_neg c37] at H
            exact absurd H (by simp)
      ·rw [if_neg c20] at H
       exact absurd H (by simp)
def laws_FnExactParseDiagonals.Pure : Prop := ∀ (a0 : ByteArray), a0.size ≤ 140737488351232 → ∃ k, laws_FnExactParseDiagonals.f k a0 = some true
end Go.Proofs.YtcfcnnnkpdhecaaDoor.PFnExactParseDiagonals
