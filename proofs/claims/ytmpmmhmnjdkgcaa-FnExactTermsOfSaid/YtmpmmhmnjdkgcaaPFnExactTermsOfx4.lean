-- Written for this claim by a program of this session (wip/tools/xprint.py over the kit's printer, wip/tools/shrink.py).
import Derived.Test.YtmpmmhmnjdkgcaaPFnExactTermsOfx0
import Derived.Test.YtmpmmhmnjdkgcaaPFnExactTermsOfx1
import Derived.Test.YtmpmmhmnjdkgcaaPFnExactTermsOfx2
import Derived.Test.YtmpmmhmnjdkgcaaPFnExactTermsOfx3
namespace Go.Proofs.Ytmpmmhmnjdkgcaa.PFnExactTermsOf
open Go.RowKit Go.Proofs.YtmpmmhmnjdkgcaaW.PrintWords Go.Proofs.YtmpmmhmnjdkgcaaW.PrintLast Go.Proofs.YtmpmmhmnjdkgcaaW.PrintMore
attribute [local go_sem] max2_int min2_int max_two min_two max_three min_three max_four min_four   -- for this text's walks alone
set_option linter.unusedVariables false
set_option linter.unusedSimpArgs false
mutual
def laws_FnExactTermsOf.j0 : Nat → List Int → List Int → Bool → List Int → List Int → Bool → Bool → Option (Bool)
 | 0, _, _, _, _, _, _, _ => none
 | k + 1, x0, x3, x4, x5, x6, x7, x37 => if x37 = true then (none) else ((laws_toIntS.f k x0).bind fun t173 => ((laws_eqIntS.f k x5 t173).bind fun t176 => (if t176 = true then ((laws_markIntS.f k x5 1).bind fun bt177 => (if bt177.1 < 0 then (laws_FnExactTermsOf.j1 k x0 x3 x4 x6 true) else ((laws_eqIntS.f k x6 x3).bind fun t179 => (if t179 = true then (laws_FnExactTermsOf.j1 k x0 x3 x4 x6 (x7 != x4)) else (laws_FnExactTermsOf.j1 k x0 x3 x4 x6 true))))) else (none))))
def laws_FnExactTermsOf.j1 : Nat → List Int → List Int → Bool → List Int → Bool → Option (Bool)
 | 0, _, _, _, _, _ => none
 | k + 1, x0, x3, x4, x6, x58 => if x58 = true then (none) else ((laws_markIntS.f k x6 1).bind fun bt180 => ((laws_heldIntS.f k bt180.2 1).bind fun t182 => (if t182 < 0 then (none) else (if t182 = bt180.1 then ((laws_toIntS.f k x0).bind fun t183 => ((impl_TermsOf.f k t183).bind fun bt186 => ((laws_eqIntS.f k bt186.1 x3).bind fun t190 => (if t190 = true then (laws_FnExactTermsOf.j2 k bt180.2 bt180.1 (bt186.2 != x4)) else (laws_FnExactTermsOf.j2 k bt180.2 bt180.1 true))))) else (none)))))
def laws_FnExactTermsOf.j2 : Nat → List Int → Int → Bool → Option (Bool)
 | 0, _, _, _ => none
 | k + 1, x6, x9, x84 => if x84 = true then (none) else ((laws_heldIntS.f k x6 1).bind fun t191 => (if t191 < 0 then (none) else (if t191 = x9 then (some true) else (none))))
end
def laws_FnExactTermsOf.f (k : Nat) (l0 : List Int) : Option (Bool) := if (l0.length : Int) > 1048576 then (some true) else ((laws_toIntS.f k l0).bind fun t158 => ((spec_TermsOf.f k t158).bind fun bt161 => ((laws_toIntS.f k l0).bind fun t165 => ((impl_TermsOf.f k t165).bind fun bt168 => ((laws_eqIntS.f k bt168.1 bt161.1).bind fun t172 => (if t172 = true then (laws_FnExactTermsOf.j0 k l0 bt161.1 bt161.2 t165 bt168.1 bt168.2 (bt168.2 != bt161.2)) else (laws_FnExactTermsOf.j0 k l0 bt161.1 bt161.2 t165 bt168.1 bt168.2 true)))))))
set_option maxHeartbeats 8000000 in
set_option maxRecDepth 100000 in
theorem laws_FnExactTermsOf.calls (k : Nat) (A0 : Option Addr) (c0 : Nat) (l0 : List Int) (r : Bool) (w : World) (hr0 : Kd.C (Kd.int .i64) w A0 l0.length l0) (hc0 : l0.length ≤ c0) (h : laws_FnExactTermsOf.f k l0 = some r) :
  Calls Try.prog 12 #[.slice A0 l0.length c0] w fun e w' => e = .returned (.bool r) ∧ Below w.heap.size w w' := by
 have HR0 := Aside0.mk hr0; have HC0 := Aside0.mk hc0; clear hr0 hc0; have HB := Aside0.mk (Below.refl w.heap.size w); have H : (if (l0.length : Int) > 1048576 then (some true) else ((laws_toIntS.f k l0).bind fun t158 => ((spec_TermsOf.f k t158).bind fun bt161 => ((laws_toIntS.f k l0).bind fun t165 => ((impl_TermsOf.f k t165).bind fun bt168 => ((laws_eqIntS.f k bt168.1 bt161.1).bind fun t172 => (if t172 = true then (laws_FnExactTermsOf.j0 k l0 bt161.1 bt161.2 t165 bt168.1 bt168.2 (bt168.2 != bt161.2)) else (laws_FnExactTermsOf.j0 k l0 bt161.1 bt161.2 t165 bt168.1 bt168.2 true)))))))) = some r := h
 clear h
 by_cases c2 : (l0.length : Int) > 1048576
 ·rw [if_pos c2] at H
  have c2b0 : decide (1048576 < (l0.length : Int)) = true := decide_eq_true c2; have c2b1 : decide (1048576 < l0.length) = true := decide_eq_true (by omega)
  clear c2; obtain rfl := Option.some.inj H
  go_enter Try.func12, Try.ntmps12
  go_wp2
  go_ret
  exact ⟨by first | rfl | (simp [errW_none, errW_some] <;> rfl) | (simp [*, errW_none, errW_some] <;> rfl), bl_ HB.out⟩
 ·rw [if_neg c2] at H
  have c2b0 : decide (1048576 < (l0.length : Int)) = false := decide_eq_false c2; have c2b1 : decide (1048576 < l0.length) = false := decide_eq_false (by omega)
  clear c2; replace H := Option.bind_eq_some_iff.mp H; obtain ⟨t158, A30, H⟩ := H; replace H : ((spec_TermsOf.f k t158).bind fun bt161 => ((laws_toIntS.f k l0).bind fun t165 => ((impl_TermsOf.f k t165).bind fun bt168 => ((laws_eqIntS.f k bt168.1 bt161.1).bind fun t172 => (if t172 = true then (laws_FnExactTermsOf.j0 k l0 bt161.1 bt161.2 t165 bt168.1 bt168.2 (bt168.2 != bt161.2)) else (laws_FnExactTermsOf.j0 k l0 bt161.1 bt161.2 t165 bt168.1 bt168.2 true)))))) = some r := H
  have A3 := Aside0.mk A30; clear A30; replace H := Option.bind_eq_some_iff.mp H; obtain ⟨⟨t161, t162⟩, A40, H⟩ := H; replace H : ((laws_toIntS.f k l0).bind fun t165 => ((impl_TermsOf.f k t165).bind fun bt168 => ((laws_eqIntS.f k bt168.1 t161).bind fun t172 => (if t172 = true then (laws_FnExactTermsOf.j0 k l0 t161 t162 t165 bt168.1 bt168.2 (bt168.2 != t162)) else (laws_FnExactTermsOf.j0 k l0 t161 t162 t165 bt168.1 bt168.2 true))))) = some r := H
  have A4 := Aside0.mk A40; clear A40; replace H := Option.bind_eq_some_iff.mp H; obtain ⟨t165, A50, H⟩ := H; replace H : ((impl_TermsOf.f k t165).bind fun bt168 => ((laws_eqIntS.f k bt168.1 t161).bind fun t172 => (if t172 = true then (laws_FnExactTermsOf.j0 k l0 t161 t162 t165 bt168.1 bt168.2 (bt168.2 != t162)) else (laws_FnExactTermsOf.j0 k l0 t161 t162 t165 bt168.1 bt168.2 true)))) = some r := H
  have A5 := Aside0.mk A50; clear A50; replace H := Option.bind_eq_some_iff.mp H; obtain ⟨⟨t168, t169⟩, A60, H⟩ := H; replace H : ((laws_eqIntS.f k t168 t161).bind fun t172 => (if t172 = true then (laws_FnExactTermsOf.j0 k l0 t161 t162 t165 t168 t169 (t169 != t162)) else (laws_FnExactTermsOf.j0 k l0 t161 t162 t165 t168 t169 true))) = some r := H
  have A6 := Aside0.mk A60; clear A60; have HC7 := Aside0.mk H; clear H
  go_enter Try.func12, Try.ntmps12
  go_upto_region 6 with (first | ((with_reducible refine gate_callee (f := 14) rfl ?_); refine goesL_ (some 18) rfl rfl Try.func14 (by kernel_rfl) rfl #[.slice A0 l0.length c0] rfl (by (try simp only [List.map_toArray, List.map_cons, List.map_nil]); first | done | rfl | (simp only [List.length_drop, List.length_take]; rfl)) ?_; (with_reducible refine (laws_toIntS.calls k _ _ l0 t158 _ ?side1 ?side2 A3.out).mono ?_); (case side1 => repeat (first | exact HR0.out | (with_reducible refine Kd.C_alloc ?_ _) | (with_reducible refine Kd.C_drewN ?_ _) | (with_reducible refine Kd.C_drew ?_))); (case side2 => exact HC0.out); rintro e w8 ⟨v159, rfl, ho0, hb⟩; refine ⟨_, rfl, ?_⟩; have n0_ := Aside0.mk (Kd.R_lower ho0 (below_size (bl_ HB.out))); have n1_ := Aside0.mk (below_step (bl_ HB.out) hb); clear HB; have HO160 := n0_; have HB := n1_; clear n0_ n1_; (try clear hb); (try clear hb2); (try clear hk); (try clear hi); (try clear ho0); obtain ⟨Ao9, co9, eo9⟩ := Kd.R_slice HO160.out; subst eo9) | ((with_reducible refine gate_callee (f := 40) rfl ?_); refine goesL_ (some 19) rfl rfl Try.func40 (by kernel_rfl) rfl #[.slice Ao9 t158.length co9] rfl (by (try simp only [List.map_toArray, List.map_cons, List.map_nil]); first | done | rfl | (simp only [List.length_drop, List.length_take]; rfl)) ?_; (with_reducible refine (spec_TermsOf.calls k _ _ t158 t161 t162 _ ?side1 ?side2 A4.out).mono ?_); (case side1 => repeat (first | exact (Kd.R_reads' HO160.out).2.2 | (with_reducible refine Kd.C_alloc ?_ _) | (with_reducible refine Kd.C_drewN ?_ _) | (with_reducible refine Kd.C_drew ?_))); (case side2 => exact (Kd.R_reads' HO160.out).2.1); rintro e w10 ⟨v163, rfl, ho0, hb⟩; refine ⟨_, rfl, ?_⟩; have n0_ := Aside0.mk (Kd.R_elder' (kr_ HO160.out) (Kd.R_base ho0) hb); have n1_ := Aside0.mk (Kd.R_lower (Kd.R_new' ho0 (Kd.R_lt (kr_ HO160.out))) (below_size (bl_ HB.out))); have n2_ := Aside0.mk (below_step (bl_ HB.out) hb); clear HO160; clear HB; have HO160 := n0_; have HO164 := n1_; have HB := n2_; clear n0_ n1_ n2_; (try clear hb); (try clear hb2); (try clear hk); (try clear hi); (try clear ho0)) | ((with_reducible refine gate_callee (f := 14) rfl ?_); refine goesL_ (some 23) rfl rfl Try.func14 (by kernel_rfl) rfl #[.slice A0 l0.length c0] rfl (by (try simp only [List.map_toArray, List.map_cons, List.map_nil]); first | done | rfl | (simp only [List.length_drop, List.length_take]; rfl)) ?_; (with_reducible refine (laws_toIntS.calls k _ _ l0 t165 _ ?side1 ?side2 A5.out).mono ?_); (case side1 => repeat (first | exact (Kd.C_below HR0.out HB.out) | (with_reducible refine Kd.C_alloc ?_ _) | (with_reducible refine Kd.C_drewN ?_ _) | (with_reducible refine Kd.C_drew ?_))); (case side2 => exact HC0.out); rintro e w11 ⟨v166, rfl, ho0, hb⟩; refine ⟨_, rfl, ?_⟩; have n0_ := Aside0.mk (Kd.R_elder' (kr_ HO160.out) (Kd.R_base ho0) hb); have n1_ := Aside0.mk (Kd.R_elder' (kr_ HO164.out) (Kd.R_base ho0) hb); have n2_ := Aside0.mk (Kd.R_lower (Kd.R_new' (Kd.R_new' ho0 (Kd.R_lt (kr_ HO160.out))) (Kd.R_lt (kr_ HO164.out))) (below_size (bl_ HB.out))); have n3_ := Aside0.mk (below_step (bl_ HB.out) hb); clear HO160; clear HO164; clear HB; have HO160 := n0_; have HO164 := n1_; have HO167 := n2_; have HB := n3_; clear n0_ n1_ n2_ n3_; (try clear hb); (try clear hb2); (try clear hk); (try clear hi); (try clear ho0); obtain ⟨Ao12, co12, eo12⟩ := Kd.R_slice HO167.out; subst eo12) | ((with_reducible refine gate_callee (f := 41) rfl ?_); refine goesL_ (some 26) rfl rfl Try.func41 (by kernel_rfl) rfl #[.slice Ao12 t165.length co12] rfl (by (try simp only [List.map_toArray, List.map_cons, List.map_nil]); first | done | rfl | (simp only [List.length_drop, List.length_take]; rfl)) ?_; (with_reducible refine (impl_TermsOf.calls k _ _ t165 t168 t169 _ ?side1 ?side2 A6.out).mono ?_); (case side1 => repeat (first | exact (Kd.R_reads' HO167.out).2.2 | (with_reducible refine Kd.C_alloc ?_ _) | (with_reducible refine Kd.C_drewN ?_ _) | (with_reducible refine Kd.C_drew ?_))); (case side2 => exact (Kd.R_reads' HO167.out).2.1); rintro e w13 ⟨v170, rfl, ho0, hb⟩; refine ⟨_, rfl, ?_⟩; have n0_ := Aside0.mk (Kd.R_elder' (kr_ HO160.out) (Kd.R_base ho0) hb); have n1_ := Aside0.mk (Kd.R_elder' (kr_ HO164.out) (Kd.R_base ho0) hb); have n2_ := Aside0.mk (Kd.R_elder' (kr_ HO167.out) (Kd.R_base ho0) hb); have n3_ := Aside0.mk (Kd.R_lower (Kd.R_new' (Kd.R_new' (Kd.R_new' ho0 (Kd.R_lt (kr_ HO160.out))) (Kd.R_lt (kr_ HO164.out))) (Kd.R_lt (kr_ HO167.out))) (below_size (bl_ HB.out))); have n4_ := Aside0.mk (below_step (bl_ HB.out) hb); clear HO160; clear HO164; clear HO167; clear HB; have HO160 := n0_; have HO164 := n1_; have HO167 := n2_; have HO171 := n3_; have HB := n4_; clear n0_ n1_ n2_ n3_ n4_; (try clear hb); (try clear hb2); (try clear hk); (try clear hi); (try clear ho0)))
  (try simp only [Act.put, List.setIfInBounds_toArray, List.set_cons_zero, List.set_cons_succ])
  go_cut [37] (fun v37 wc => ∃ (kq : Nat) (x37_6 : Bool), v37 = .bool x37_6 ∧ Aside0 (laws_FnExactTermsOf.j0 kq l0 t161 t162 t165 t168 t169 x37_6 = some r) ∧ Aside0 (kq ≤ k) ∧ Aside0 (Kd.R (Kd.int .i64) 3 wc w.heap.size (fun k_ => some k_ ≠ ((.slice Ao12 t165.length co12) : Value).ownBlock ∧ some k_ ≠ (v170 : Value).ownBlock) v163 t161) ∧ Aside0 (Kd.R (Kd.int .i64) 3 wc w.heap.size (fun k_ => some k_ ≠ (v163 : Value).ownBlock ∧ some k_ ≠ (v170 : Value).ownBlock) (.slice Ao12 t165.length co12) t165) ∧ Aside0 (Kd.R (Kd.int .i64) 3 wc w.heap.size (fun k_ => some k_ ≠ (v163 : Value).ownBlock ∧ some k_ ≠ ((.slice Ao12 t165.length co12) : Value).ownBlock) v170 t168) ∧ Aside0 (Below w.heap.size w wc))
  case first =>
   have H := HC7.out; clear HC7; replace H := Option.bind_eq_some_iff.mp H; obtain ⟨t172, A140, H⟩ := H; replace H : (if t172 = true then (laws_FnExactTermsOf.j0 k l0 t161 t162 t165 t168 t169 (t169 != t162)) else (laws_FnExactTermsOf.j0 k l0 t161 t162 t165 t168 t169 true)) = some r := H
   have A14 := Aside0.mk A140; clear A140
   by_cases c15 : t172 = true
   ·subst c15
    have H1 : (laws_FnExactTermsOf.j0 k l0 t161 t162 t165 t168 t169 (t169 != t162)) = some r := by rw [if_pos rfl] at H; exact H
    clear H; have H := H1; clear H1; have H' := Aside0.mk H; clear H; obtain ⟨Ao16, co16, eo16⟩ := Kd.R_slice HO171.out; subst eo16; obtain ⟨Ao17, co17, eo17⟩ := Kd.R_slice HO164.out; subst eo17
    go_wp2_with (first | ((with_reducible refine gate_callee (f := 16) rfl ?_); refine goesL_ (some 31) rfl rfl Try.func16 (by kernel_rfl) rfl #[.slice Ao16 t168.length co16, .slice Ao17 t161.length co17] rfl (by (try simp only [List.map_toArray, List.map_cons, List.map_nil]); first | done | rfl | (simp only [List.length_drop, List.length_take]; rfl)) ?_; (with_reducible refine (laws_eqIntS.calls k _ _ t168 _ _ t161 true _ ?side1 ?side2 ?side3 ?side4 A14.out).mono ?_); (case side1 => repeat (first | exact (Kd.R_reads' HO171.out).2.2 | (with_reducible refine Kd.C_alloc ?_ _) | (with_reducible refine Kd.C_drewN ?_ _) | (with_reducible refine Kd.C_drew ?_))); (case side2 => exact (Kd.R_reads' HO171.out).2.1); (case side3 => repeat (first | exact (Kd.R_reads' HO164.out).2.2 | (with_reducible refine Kd.C_alloc ?_ _) | (with_reducible refine Kd.C_drewN ?_ _) | (with_reducible refine Kd.C_drew ?_))); (case side4 => exact (Kd.R_reads' HO164.out).2.1); rintro e w' ⟨rfl, ⟨nd, rfl⟩⟩; refine ⟨_, rfl, ?_⟩))
    go_meet
    case rel => exact ⟨_, ((t169 != t162)), (fs_), H', ⟨by first | omega | exact Nat.le_refl _⟩, ⟨by (with_reducible repeat (first | apply Kd.R_alloc | apply Kd.R_drewN | apply Kd.R_drew)); exact Kd.R_mono HO164.out (fun _ hk => ⟨hk.1.2, hk.2⟩)⟩, ⟨by (with_reducible repeat (first | apply Kd.R_alloc | apply Kd.R_drewN | apply Kd.R_drew)); exact Kd.R_mono HO167.out (fun _ hk => ⟨hk.1.2, hk.2⟩)⟩, ⟨by (with_reducible repeat (first | apply Kd.R_alloc | apply Kd.R_drewN | apply Kd.R_drew)); exact Kd.R_mono HO171.out (fun _ hk => ⟨hk.1.2, hk.2⟩)⟩, ⟨bl_ HB.out⟩⟩
   ·replace c15 := Bool.eq_false_iff.mpr c15
    subst c15; have H1 : (laws_FnExactTermsOf.j0 k l0 t161 t162 t165 t168 t169 true) = some r := by rw [if_neg (show ¬ (false = true) by decide)] at H; exact H
    clear H; have H := H1; clear H1; have H' := Aside0.mk H; clear H; obtain ⟨Ao18, co18, eo18⟩ := Kd.R_slice HO171.out; subst eo18; obtain ⟨Ao19, co19, eo19⟩ := Kd.R_slice HO164.out; subst eo19
    go_wp2_with (first | ((with_reducible refine gate_callee (f := 16) rfl ?_); refine goesL_ (some 31) rfl rfl Try.func16 (by kernel_rfl) rfl #[.slice Ao18 t168.length co18, .slice Ao19 t161.length co19] rfl (by (try simp only [List.map_toArray, List.map_cons, List.map_nil]); first | done | rfl | (simp only [List.length_drop, List.length_take]; rfl)) ?_; (with_reducible refine (laws_eqIntS.calls k _ _ t168 _ _ t161 false _ ?side1 ?side2 ?side3 ?side4 A14.out).mono ?_); (case side1 => repeat (first | exact (Kd.R_reads' HO171.out).2.2 | (with_reducible refine Kd.C_alloc ?_ _) | (with_reducible refine Kd.C_drewN ?_ _) | (with_reducible refine Kd.C_drew ?_))); (case side2 => exact (Kd.R_reads' HO171.out).2.1); (case side3 => repeat (first | exact (Kd.R_reads' HO164.out).2.2 | (with_reducible refine Kd.C_alloc ?_ _) | (with_reducible refine Kd.C_drewN ?_ _) | (with_reducible refine Kd.C_drew ?_))); (case side4 => exact (Kd.R_reads' HO164.out).2.1); rintro e w' ⟨rfl, ⟨nd, rfl⟩⟩; refine ⟨_, rfl, ?_⟩))
    go_meet
    case rel => exact ⟨_, (true), (fs_), H', ⟨by first | omega | exact Nat.le_refl _⟩, ⟨by (with_reducible repeat (first | apply Kd.R_alloc | apply Kd.R_drewN | apply Kd.R_drew)); exact Kd.R_mono HO164.out (fun _ hk => ⟨hk.1.2, hk.2⟩)⟩, ⟨by (with_reducible repeat (first | apply Kd.R_alloc | apply Kd.R_drewN | apply Kd.R_drew)); exact Kd.R_mono HO167.out (fun _ hk => ⟨hk.1.2, hk.2⟩)⟩, ⟨by (with_reducible repeat (first | apply Kd.R_alloc | apply Kd.R_drewN | apply Kd.R_drew)); exact Kd.R_mono HO171.out (fun _ hk => ⟨hk.1.2, hk.2⟩)⟩, ⟨bl_ HB.out⟩⟩
  case rest =>
   clear HC7
   try clear c1
   try clear c2
   try clear c2b0
   try clear c2b1
   try clear p2
   try clear c4
   try clear c12
   try clear c14
   try clear c15
   try clear c16
   obtain ⟨kq, x37_6, rfl, HA, HJ6, HO_3, HO_5, HO_6, HB⟩ := hcut
   cases kq with
   | zero => exact absurd HA.out (by simp [laws_FnExactTermsOf.j0])
   | succ kj6 =>
    have H := HA.out; clear HA
    simp only [laws_FnExactTermsOf.j0] at H
    by_cases c20 : x37_6 = true
    ·subst c20
     have H1 : (none) = some r := by rw [if_pos rfl] at H; exact H
     clear H; have H := H1; clear H1; exact absurd H (by simp)
    ·replace c20 := Bool.eq_false_iff.mpr c20
     subst c20; have H1 : ((laws_toIntS.f kj6 l0).bind fun t173 => ((laws_eqIntS.f kj6 t165 t173).bind fun t176 => (if t176 = true then ((laws_markIntS.f kj6 t165 1).bind fun bt177 => (if bt177.1 < 0 then (laws_FnExactTermsOf.j1 kj6 l0 t161 t162 t168 true) else ((laws_eqIntS.f kj6 t168 t161).bind fun t179 => (if t179 = true then (laws_FnExactTermsOf.j1 kj6 l0 t161 t162 t168 (t169 != t162)) else (laws_FnExactTermsOf.j1 kj6 l0 t161 t162 t168 true))))) else (none)))) = some r := by rw [if_neg (show ¬ (false = true) by decide)] at H; exact H
     clear H; have H := H1; clear H1; replace H := Option.bind_eq_some_iff.mp H; obtain ⟨t173, A210, H⟩ := H; replace H : ((laws_eqIntS.f kj6 t165 t173).bind fun t176 => (if t176 = true then ((laws_markIntS.f kj6 t165 1).bind fun bt177 => (if bt177.1 < 0 then (laws_FnExactTermsOf.j1 kj6 l0 t161 t162 t168 true) else ((laws_eqIntS.f kj6 t168 t161).bind fun t179 => (if t179 = true then (laws_FnExactTermsOf.j1 kj6 l0 t161 t162 t168 (t169 != t162)) else (laws_FnExactTermsOf.j1 kj6 l0 t161 t162 t168 true))))) else (none))) = some r := H
     have A21 := Aside0.mk A210; clear A210; replace H := Option.bind_eq_some_iff.mp H; obtain ⟨t176, A220, H⟩ := H; replace H : (if t176 = true then ((laws_markIntS.f kj6 t165 1).bind fun bt177 => (if bt177.1 < 0 then (laws_FnExactTermsOf.j1 kj6 l0 t161 t162 t168 true) else ((laws_eqIntS.f kj6 t168 t161).bind fun t179 => (if t179 = true then (laws_FnExactTermsOf.j1 kj6 l0 t161 t162 t168 (t169 != t162)) else (laws_FnExactTermsOf.j1 kj6 l0 t161 t162 t168 true))))) else (none)) = some r := H
     have A22 := Aside0.mk A220; clear A220
     by_cases c23 : t176 = true
     ·subst c23
      have H1 : ((laws_markIntS.f kj6 t165 1).bind fun bt177 => (if bt177.1 < 0 then (laws_FnExactTermsOf.j1 kj6 l0 t161 t162 t168 true) else ((laws_eqIntS.f kj6 t168 t161).bind fun t179 => (if t179 = true then (laws_FnExactTermsOf.j1 kj6 l0 t161 t162 t168 (t169 != t162)) else (laws_FnExactTermsOf.j1 kj6 l0 t161 t162 t168 true))))) = some r := by rw [if_pos rfl] at H; exact H
      clear H; have H := H1; clear H1; replace H := Option.bind_eq_some_iff.mp H; obtain ⟨⟨t177, t178⟩, A240, H⟩ := H; replace H : (if t177 < 0 then (laws_FnExactTermsOf.j1 kj6 l0 t161 t162 t168 true) else ((laws_eqIntS.f kj6 t168 t161).bind fun t179 => (if t179 = true then (laws_FnExactTermsOf.j1 kj6 l0 t161 t162 t168 (t169 != t162)) else (laws_FnExactTermsOf.j1 kj6 l0 t161 t162 t168 true)))) = some r := H
      have A24 := Aside0.mk A240; clear A240; have HC25 := Aside0.mk H; clear H
      go_upto_region 12 with (first | ((with_reducible refine gate_callee (f := 14) rfl ?_); refine goesL_ (some 40) rfl rfl Try.func14 (by kernel_rfl) rfl #[.slice A0 l0.length c0] rfl (by (try simp only [List.map_toArray, List.map_cons, List.map_nil]); first | done | rfl | (simp only [List.length_drop, List.length_take]; rfl)) ?_; (with_reducible refine (laws_toIntS.calls kj6 _ _ l0 t173 _ ?side1 ?side2 A21.out).mono ?_); (case side1 => repeat (first | exact (Kd.C_below HR0.out HB.out) | (with_reducible refine Kd.C_alloc ?_ _) | (with_reducible refine Kd.C_drewN ?_ _) | (with_reducible refine Kd.C_drew ?_))); (case side2 => exact HC0.out); rintro e w26 ⟨v174, rfl, ho0, hb⟩; refine ⟨_, rfl, ?_⟩; have n0_ := Aside0.mk (Kd.R_elder' (kr_ HO_3.out) (Kd.R_base ho0) hb); have n1_ := Aside0.mk (Kd.R_elder' (kr_ HO_5.out) (Kd.R_base ho0) hb); have n2_ := Aside0.mk (Kd.R_elder' (kr_ HO_6.out) (Kd.R_base ho0) hb); have n3_ := Aside0.mk (Kd.R_lower (Kd.R_new' (Kd.R_new' (Kd.R_new' ho0 (Kd.R_lt (kr_ HO_3.out))) (Kd.R_lt (kr_ HO_5.out))) (Kd.R_lt (kr_ HO_6.out))) (below_size (bl_ HB.out))); have n4_ := Aside0.mk (below_step (bl_ HB.out) hb); clear HO_3; clear HO_5; clear HO_6; clear HB; have HO_3 := n0_; have HO_5 := n1_; have HO_6 := n2_; have HO175 := n3_; have HB := n4_; clear n0_ n1_ n2_ n3_ n4_; (try clear hb); (try clear hb2); (try clear hk); (try clear hi); (try clear ho0); obtain ⟨Ao27, co27, eo27⟩ := Kd.R_slice HO175.out; subst eo27) | ((with_reducible refine gate_callee (f := 16) rfl ?_); refine goesL_ (some 41) rfl rfl Try.func16 (by kernel_rfl) rfl #[.slice Ao12 t165.length co12, .slice Ao27 t173.length co27] rfl (by (try simp only [List.map_toArray, List.map_cons, List.map_nil]); first | done | rfl | (simp only [List.length_drop, List.length_take]; rfl)) ?_; (with_reducible refine (laws_eqIntS.calls kj6 _ _ t165 _ _ t173 true _ ?side1 ?side2 ?side3 ?side4 A22.out).mono ?_); (case side1 => repeat (first | exact (Kd.R_reads' HO_5.out).2.2 | (with_reducible refine Kd.C_alloc ?_ _) | (with_reducible refine Kd.C_drewN ?_ _) | (with_reducible refine Kd.C_drew ?_))); (case side2 => exact (Kd.R_reads' HO_5.out).2.1); (case side3 => repeat (first | exact (Kd.R_reads' HO175.out).2.2 | (with_reducible refine Kd.C_alloc ?_ _) | (with_reducible refine Kd.C_drewN ?_ _) | (with_reducible refine Kd.C_drew ?_))); (case side4 => exact (Kd.R_reads' HO175.out).2.1); rintro e w' ⟨rfl, ⟨nd, rfl⟩⟩; refine ⟨_, rfl, ?_⟩) | ((with_reducible refine gate_callee (f := 24) rfl ?_); refine goesL_ (some 45) rfl rfl Try.func24 (by kernel_rfl) rfl #[.slice Ao12 t165.length co12, .int .i64 1] rfl (by (try simp only [List.map_toArray, List.map_cons, List.map_nil]); first | done | rfl | (simp only [List.length_drop, List.length_take]; rfl)) ?_; (with_reducible refine (laws_markIntS.calls kj6 (fun k_ => some k_ = (.slice Ao12 t165.length co12 : Value).ownBlock) (.slice Ao12 t165.length co12) t165 1 t177 t178 w _ ?side1 ?side2 A24.out).mono ?_); (case side1 => repeat (first | (with_reducible first | exact HB.out | apply below_alloc | apply pw_below_drewN | apply below_drew1) | exact HB.out)); (case side2 => exact Kd.R_tight rfl HO_5.out); rintro e w28 ⟨rfl, hy0, hb, hkp⟩; refine ⟨_, rfl, ?_⟩; have n0_ := Aside0.mk (Kd.R_mono (ok' := fun k_ => some k_ ≠ (.slice Ao12 t165.length co12 : Value).ownBlock ∧ some k_ ≠ (v170 : Value).ownBlock ∧ some k_ ≠ (.slice Ao27 t173.length co27 : Value).ownBlock) (Kd.R_keptB (HO_3.out) hkp (fun k_ hk_ hs_ => (hk_.1.1) hs_)) (fun k_ hk_ => ⟨hk_.1.1.1, hk_.1.1.2, hk_.1.2⟩)); have n1_ := Aside0.mk (Kd.R_reok rfl hy0 (fun k_ e_ => HO_5.out.1 k_ e_)); have n2_ := Aside0.mk (Kd.R_mono (ok' := fun k_ => some k_ ≠ (v163 : Value).ownBlock ∧ some k_ ≠ (.slice Ao12 t165.length co12 : Value).ownBlock ∧ some k_ ≠ (.slice Ao27 t173.length co27 : Value).ownBlock) (Kd.R_keptB (HO_6.out) hkp (fun k_ hk_ hs_ => (hk_.1.2) hs_)) (fun k_ hk_ => ⟨hk_.1.1.1, hk_.1.1.2, hk_.1.2⟩)); have n3_ := Aside0.mk (Kd.R_mono (ok' := fun k_ => some k_ ≠ (v163 : Value).ownBlock ∧ some k_ ≠ (.slice Ao12 t165.length co12 : Value).ownBlock ∧ some k_ ≠ (v170 : Value).ownBlock) (Kd.R_keptB (HO175.out) hkp (fun k_ hk_ hs_ => (hk_.1.2) hs_)) (fun k_ hk_ => ⟨hk_.1.1.1.2, hk_.1.1.2, hk_.1.2⟩)); have n4_ := Aside0.mk (hb); clear HO_3; clear HO_5; clear HO_6; clear HO175; clear HB; have HO_3 := n0_; have HO_5 := n1_; have HO_6 := n2_; have HO175 := n3_; have HB := n4_; clear n0_ n1_ n2_ n3_ n4_; (try clear hb); (try clear hkp); (try clear hy0)))
      (try simp only [Act.put, List.setIfInBounds_toArray, List.set_cons_zero, List.set_cons_succ])
      go_cut [58] (fun v58 wc => ∃ (kq : Nat) (x58_24 : Bool), v58 = .bool x58_24 ∧ Aside0 (laws_FnExactTermsOf.j1 kq l0 t161 t162 t168 x58_24 = some r) ∧ Aside0 (kq ≤ kj6) ∧ Aside0 (Kd.R (Kd.int .i64) 3 wc w.heap.size (fun k_ => some k_ ≠ (v170 : Value).ownBlock) v163 t161) ∧ Aside0 (Kd.R (Kd.int .i64) 3 wc w.heap.size (fun k_ => some k_ ≠ (v163 : Value).ownBlock) v170 t168) ∧ Aside0 (Below w.heap.size w wc))
      case first =>
       have H := HC25.out; clear HC25
       by_cases c29 : t177 < 0
       ·rw [if_pos c29] at H
        have c29b0 : decide (t177 < 0) = true := decide_eq_true c29; clear c29
        (first | rw [c29b0] | (simp only [i64_w, i32_w]; rw [c29b0]) | skip)
        have H' := Aside0.mk H; clear H
        go_wp2
        go_meet
        case rel => exact ⟨_, (true), (fs_), H', ⟨by have := HJ6.out; first | omega | exact Nat.le_refl _⟩, ⟨by (with_reducible repeat (first | apply Kd.R_alloc | apply Kd.R_drewN | apply Kd.R_drew)); exact Kd.R_mono HO_3.out (fun _ hk => hk.2.1)⟩, ⟨by (with_reducible repeat (first | apply Kd.R_alloc | apply Kd.R_drewN | apply Kd.R_drew)); exact Kd.R_mono HO_6.out (fun _ hk => hk.1)⟩, ⟨bl_ HB.out⟩⟩
       ·rw [if_neg c29] at H
        have c29b0 : decide (t177 < 0) = false := decide_eq_false c29; clear c29
        (first | rw [c29b0] | (simp only [i64_w, i32_w]; rw [c29b0]) | skip)
        replace H := Option.bind_eq_some_iff.mp H; obtain ⟨t179, A300, H⟩ := H; replace H : (if t179 = true then (laws_FnExactTermsOf.j1 kj6 l0 t161 t162 t168 (t169 != t162)) else (laws_FnExactTermsOf.j1 kj6 l0 t161 t162 t168 true)) = some r := H
        have A30 := Aside0.mk A300; clear A300
        by_cases c31 : t179 = true
        ·subst c31
         have H1 : (laws_FnExactTermsOf.j1 kj6 l0 t161 t162 t168 (t169 != t162)) = some r := by rw [if_pos rfl] at H; exact H
         clear H; have H := H1; clear H1; have H' := Aside0.mk H; clear H; obtain ⟨Ao32, co32, eo32⟩ := Kd.R_slice HO_6.out; subst eo32; obtain ⟨Ao33, co33, eo33⟩ := Kd.R_slice HO_3.out; subst eo33
         go_wp2_with (first | (go_at_call 16; (with_reducible refine (laws_eqIntS.calls kj6 _ _ t168 _ _ t161 true _ ?side1 ?side2 ?side3 ?side4 A30.out).mono ?_); (case side1 => repeat (first | exact (Kd.R_reads' HO_6.out).2.2 | (with_reducible refine Kd.C_alloc ?_ _) | (with_reducible refine Kd.C_drewN ?_ _) | (with_reducible refine Kd.C_drew ?_))); (case side2 => exact (Kd.R_reads' HO_6.out).2.1); (case side3 => repeat (first | exact (Kd.R_reads' HO_3.out).2.2 | (with_reducible refine Kd.C_alloc ?_ _) | (with_reducible refine Kd.C_drewN ?_ _) | (with_reducible refine Kd.C_drew ?_))); (case side4 => exact (Kd.R_reads' HO_3.out).2.1); rintro e w' ⟨rfl, ⟨nd, rfl⟩⟩))
         go_meet
         case rel => exact ⟨_, ((t169 != t162)), (fs_), H', ⟨by have := HJ6.out; first | omega | exact Nat.le_refl _⟩, ⟨by (with_reducible repeat (first | apply Kd.R_alloc | apply Kd.R_drewN | apply Kd.R_drew)); exact Kd.R_mono HO_3.out (fun _ hk => hk.2.1)⟩, ⟨by (with_reducible repeat (first | apply Kd.R_alloc | apply Kd.R_drewN | apply Kd.R_drew)); exact Kd.R_mono HO_6.out (fun _ hk => hk.1)⟩, ⟨bl_ HB.out⟩⟩
        ·replace c31 := Bool.eq_false_iff.mpr c31
         subst c31; have H1 : (laws_FnExactTermsOf.j1 kj6 l0 t161 t162 t168 true) = some r := by rw [if_neg (show ¬ (false = true) by decide)] at H; exact H
         clear H; have H := H1; clear H1; have H' := Aside0.mk H; clear H; obtain ⟨Ao34, co34, eo34⟩ := Kd.R_slice HO_6.out; subst eo34; obtain ⟨Ao35, co35, eo35⟩ := Kd.R_slice HO_3.out; subst eo35
         go_wp2_with (first | (go_at_call 16; (with_reducible refine (laws_eqIntS.calls kj6 _ _ t168 _ _ t161 false _ ?side1 ?side2 ?side3 ?side4 A30.out).mono ?_); (case side1 => repeat (first | exact (Kd.R_reads' HO_6.out).2.2 | (with_reducible refine Kd.C_alloc ?_ _) | (with_reducible refine Kd.C_drewN ?_ _) | (with_reducible refine Kd.C_drew ?_))); (case side2 => exact (Kd.R_reads' HO_6.out).2.1); (case side3 => repeat (first | exact (Kd.R_reads' HO_3.out).2.2 | (with_reducible refine Kd.C_alloc ?_ _) | (with_reducible refine Kd.C_drewN ?_ _) | (with_reducible refine Kd.C_drew ?_))); (case side4 => exact (Kd.R_reads' HO_3.out).2.1); rintro e w' ⟨rfl, ⟨nd, rfl⟩⟩))
         go_meet
         case rel => exact ⟨_, (true), (fs_), H', ⟨by have := HJ6.out; first | omega | exact Nat.le_refl _⟩, ⟨by (with_reducible repeat (first | apply Kd.R_alloc | apply Kd.R_drewN | apply Kd.R_drew)); exact Kd.R_mono HO_3.out (fun _ hk => hk.2.1)⟩, ⟨by (with_reducible repeat (first | apply Kd.R_alloc | apply Kd.R_drewN | apply Kd.R_drew)); exact Kd.R_mono HO_6.out (fun _ hk => hk.1)⟩, ⟨bl_ HB.out⟩⟩
      case rest =>
       clear HC25
       try clear c1
       try clear c2
       try clear c2b0
       try clear c2b1
       try clear p2
       try clear c3
       try clear c4
       try clear c12
       try clear c14
       try clear c15
       try clear c16
       try clear c20
       try clear c23
       try clear c24
       try clear c29
       try clear c29b0
       try clear c31
       try clear p2
       obtain ⟨kq, x58_24, rfl, HA, HJ24, HO_3, HO_6, HB⟩ := hcut
       cases kq with
       | zero => exact absurd HA.out (by simp [laws_FnExactTermsOf.j1])
       | succ kj24 =>
        have H := HA.out; clear HA
        simp only [laws_FnExactTermsOf.j1] at H
        by_cases c36 : x58_24 = true
        ·subst c36
         have H1 : (none) = some r := by rw [if_pos rfl] at H; exact H
         clear H; have H := H1; clear H1; exact absurd H (by simp)
        ·replace c36 := Bool.eq_false_iff.mpr c36
         subst c36; have H1 : ((laws_markIntS.f kj24 t168 1).bind fun bt180 => ((laws_heldIntS.f kj24 bt180.2 1).bind fun t182 => (if t182 < 0 then (none) else (if t182 = bt180.1 then ((laws_toIntS.f kj24 l0).bind fun t183 => ((impl_TermsOf.f kj24 t183).bind fun bt186 => ((laws_eqIntS.f kj24 bt186.1 t161).bind fun t190 => (if t190 = true then (laws_FnExactTermsOf.j2 kj24 bt180.2 bt180.1 (bt186.2 != t162)) else (laws_FnExactTermsOf.j2 kj24 bt180.2 bt180.1 true))))) else (none))))) = some r := by rw [if_neg (show ¬ (false = true) by decide)] at H; exact H
         clear H; have H := H1; clear H1; replace H := Option.bind_eq_some_iff.mp H; obtain ⟨⟨t180, t181⟩, A370, H⟩ := H; replace H : ((laws_heldIntS.f kj24 t181 1).bind fun t182 => (if t182 < 0 then (none) else (if t182 = t180 then ((laws_toIntS.f kj24 l0).bind fun t183 => ((impl_TermsOf.f kj24 t183).bind fun bt186 => ((laws_eqIntS.f kj24 bt186.1 t161).bind fun t190 => (if t190 = true then (laws_FnExactTermsOf.j2 kj24 t181 t180 (bt186.2 != t162)) else (laws_FnExactTermsOf.j2 kj24 t181 t180 true))))) else (none)))) = some r := H
         have A37 := Aside0.mk A370; clear A370; replace H := Option.bind_eq_some_iff.mp H; obtain ⟨t182, A380, H⟩ := H; replace H : (if t182 < 0 then (none) else (if t182 = t180 then ((laws_toIntS.f kj24 l0).bind fun t183 => ((impl_TermsOf.f kj24 t183).bind fun bt186 => ((laws_eqIntS.f kj24 bt186.1 t161).bind fun t190 => (if t190 = true then (laws_FnExactTermsOf.j2 kj24 t181 t180 (bt186.2 != t162)) else (laws_FnExactTermsOf.j2 kj24 t181 t180 true))))) else (none))) = some r := H
         have A38 := Aside0.mk A380; clear A380
         by_cases c39 : t182 < 0
         ·rw [if_pos c39] at H
          exact absurd H (by simp)
         ·rw [if_neg c39] at H
          have c39b0 : decide (t182 < 0) = false := decide_eq_false c39; clear c39
          by_cases c40 : t182 = t180
          ·rw [if_pos c40] at H
           have c40b0 : (t182 == t180) = true := beq_iff_eq.mpr c40; have c40b1 : (t182 != t180) = false := bne_eq_false_iff_eq.mpr c40; clear c40; replace H := Option.bind_eq_some_iff.mp H; obtain ⟨t183, A410, H⟩ := H; replace H : ((impl_TermsOf.f kj24 t183).bind fun bt186 => ((laws_eqIntS.f kj24 bt186.1 t161).bind fun t190 => (if t190 = true then (laws_FnExactTermsOf.j2 kj24 t181 t180 (bt186.2 != t162)) else (laws_FnExactTermsOf.j2 kj24 t181 t180 true)))) = some r := H
           have A41 := Aside0.mk A410; clear A410; replace H := Option.bind_eq_some_iff.mp H; obtain ⟨⟨t186, t187⟩, A420, H⟩ := H; replace H : ((laws_eqIntS.f kj24 t186 t161).bind fun t190 => (if t190 = true then (laws_FnExactTermsOf.j2 kj24 t181 t180 (t187 != t162)) else (laws_FnExactTermsOf.j2 kj24 t181 t180 true))) = some r := H
           have A42 := Aside0.mk A420; clear A420; have HC43 := Aside0.mk H; clear H; obtain ⟨Ao44, co44, eo44⟩ := Kd.R_slice HO_6.out; subst eo44
           go_upto_region 23 with (first | ((with_reducible refine gate_callee (f := 24) rfl ?_); refine goesL_ (some 61) rfl rfl Try.func24 (by kernel_rfl) rfl #[.slice Ao44 t168.length co44, .int .i64 1] rfl (by (try simp only [List.map_toArray, List.map_cons, List.map_nil]); first | done | rfl | (simp only [List.length_drop, List.length_take]; rfl)) ?_; (with_reducible refine (laws_markIntS.calls kj24 (fun k_ => some k_ = (.slice Ao44 t168.length co44 : Value).ownBlock) (.slice Ao44 t168.length co44) t168 1 t180 t181 w _ ?side1 ?side2 A37.out).mono ?_); (case side1 => repeat (first | (with_reducible first | exact HB.out | apply below_alloc | apply pw_below_drewN | apply below_drew1) | exact HB.out)); (case side2 => exact Kd.R_tight rfl HO_6.out); rintro e w45 ⟨rfl, hy0, hb, hkp⟩; refine ⟨_, rfl, ?_⟩; have n0_ := Aside0.mk (Kd.R_mono (ok' := fun k_ => some k_ ≠ (.slice Ao44 t168.length co44 : Value).ownBlock) (Kd.R_keptB (HO_3.out) hkp (fun k_ hk_ hs_ => (hk_) hs_)) (fun k_ hk_ => hk_.1)); have n1_ := Aside0.mk (Kd.R_reok rfl hy0 (fun k_ e_ => HO_6.out.1 k_ e_)); have n2_ := Aside0.mk (hb); clear HO_3; clear HO_6; clear HB; have HO_3 := n0_; have HO_6 := n1_; have HB := n2_; clear n0_ n1_ n2_; (try clear hb); (try clear hkp); (try clear hy0)) | ((with_reducible refine gate_callee (f := 25) rfl ?_); refine goesL_ (some 64) rfl rfl Try.func25 (by kernel_rfl) rfl #[.slice Ao44 t181.length co44, .int .i64 1] rfl (by (try simp only [List.map_toArray, List.map_cons, List.map_nil]); first | done | (rw [show t181.length = t168.length from (Kd.R_reads' HO_6.out).1.symm] <;> rfl) | rfl | (simp only [List.length_drop, List.length_take]; rfl)) ?_; (with_reducible refine (laws_heldIntS.calls kj24 _ _ t181 1 t182 _ ?side1 ?side2 A38.out).mono ?_); (case side1 => repeat (first | exact (Kd.R_reads' HO_6.out).2.2 | (with_reducible refine Kd.C_alloc ?_ _) | (with_reducible refine Kd.C_drewN ?_ _) | (with_reducible refine Kd.C_drew ?_))); (case side2 => rw [show t181.length = t168.length from (Kd.R_reads' HO_6.out).1.symm]; exact (Kd.R_reads' HO_6.out).2.1); rintro e w' ⟨rfl, ⟨nd, rfl⟩⟩; refine ⟨_, rfl, ?_⟩) | ((with_reducible refine gate_callee (f := 14) rfl ?_); refine goesL_ (some 72) rfl rfl Try.func14 (by kernel_rfl) rfl #[.slice A0 l0.length c0] rfl (by (try simp only [List.map_toArray, List.map_cons, List.map_nil]); first | done | rfl | (simp only [List.length_drop, List.length_take]; rfl)) ?_; (with_reducible refine (laws_toIntS.calls kj24 _ _ l0 t183 _ ?side1 ?side2 A41.out).mono ?_); (case side1 => repeat (first | exact (Kd.C_below HR0.out (bl_ HB.out)) | (with_reducible refine Kd.C_alloc ?_ _) | (with_reducible refine Kd.C_drewN ?_ _) | (with_reducible refine Kd.C_drew ?_))); (case side2 => exact HC0.out); rintro e w46 ⟨v184, rfl, ho0, hb⟩; refine ⟨_, rfl, ?_⟩; have n0_ := Aside0.mk (Kd.R_elder' (kr_ HO_3.out) (Kd.R_base ho0) hb); have n1_ := Aside0.mk (Kd.R_elder' (kr_ HO_6.out) (Kd.R_base ho0) hb); have n2_ := Aside0.mk (Kd.R_lower (Kd.R_new' (Kd.R_new' ho0 (Kd.R_lt (kr_ HO_3.out))) (Kd.R_lt (kr_ HO_6.out))) (below_size (bl_ HB.out))); have n3_ := Aside0.mk (below_step (bl_ HB.out) hb); clear HO_3; clear HO_6; clear HB; have HO_3 := n0_; have HO_6 := n1_; have HO185 := n2_; have HB := n3_; clear n0_ n1_ n2_ n3_; (try clear hb); (try clear hb2); (try clear hk); (try clear hi); (try clear ho0); obtain ⟨Ao47, co47, eo47⟩ := Kd.R_slice HO185.out; subst eo47) | ((with_reducible refine gate_callee (f := 41) rfl ?_); refine goesL_ (some 73) rfl rfl Try.func41 (by kernel_rfl) rfl #[.slice Ao47 t183.length co47] rfl (by (try simp only [List.map_toArray, List.map_cons, List.map_nil]); first | done | rfl | (simp only [List.length_drop, List.length_take]; rfl)) ?_; (with_reducible refine (impl_TermsOf.calls kj24 _ _ t183 t186 t187 _ ?side1 ?side2 A42.out).mono ?_); (case side1 => repeat (first | exact (Kd.R_reads' HO185.out).2.2 | (with_reducible refine Kd.C_alloc ?_ _) | (with_reducible refine Kd.C_drewN ?_ _) | (with_reducible refine Kd.C_drew ?_))); (case side2 => exact (Kd.R_reads' HO185.out).2.1); rintro e w48 ⟨v188, rfl, ho0, hb⟩; refine ⟨_, rfl, ?_⟩; have n0_ := Aside0.mk (Kd.R_elder' (kr_ HO_3.out) (Kd.R_base ho0) hb); have n1_ := Aside0.mk (Kd.R_elder' (kr_ HO_6.out) (Kd.R_base ho0) hb); have n2_ := Aside0.mk (Kd.R_elder' (kr_ HO185.out) (Kd.R_base ho0) hb); have n3_ := Aside0.mk (Kd.R_lower (Kd.R_new' (Kd.R_new' (Kd.R_new' ho0 (Kd.R_lt (kr_ HO_3.out))) (Kd.R_lt (kr_ HO_6.out))) (Kd.R_lt (kr_ HO185.out))) (below_size (bl_ HB.out))); have n4_ := Aside0.mk (below_step (bl_ HB.out) hb); clear HO_3; clear HO_6; clear HO185; clear HB; have HO_3 := n0_; have HO_6 := n1_; have HO185 := n2_; have HO189 := n3_; have HB := n4_; clear n0_ n1_ n2_ n3_ n4_; (try clear hb); (try clear hb2); (try clear hk); (try clear hi); (try clear ho0)))
           (try simp only [Act.put, List.setIfInBounds_toArray, List.set_cons_zero, List.set_cons_succ])
           go_cut [84] (fun v84 wc => ∃ (kq : Nat) (x84_42 : Bool), v84 = .bool x84_42 ∧ Aside0 (laws_FnExactTermsOf.j2 kq t181 t180 x84_42 = some r) ∧ Aside0 (kq ≤ kj24) ∧ Aside0 (Kd.R (Kd.int .i64) 3 wc w.heap.size (fun _ => True) (.slice Ao44 t168.length co44) t181) ∧ Aside0 (Below w.heap.size w wc))
           case first =>
            have H := HC43.out; clear HC43; replace H := Option.bind_eq_some_iff.mp H; obtain ⟨t190, A490, H⟩ := H; replace H : (if t190 = true then (laws_FnExactTermsOf.j2 kj24 t181 t180 (t187 != t162)) else (laws_FnExactTermsOf.j2 kj24 t181 t180 true)) = some r := H
            have A49 := Aside0.mk A490; clear A490
            by_cases c50 : t190 = true
            ·subst c50
             have H1 : (laws_FnExactTermsOf.j2 kj24 t181 t180 (t187 != t162)) = some r := by rw [if_pos rfl] at H; exact H
             clear H; have H := H1; clear H1; have H' := Aside0.mk H; clear H; obtain ⟨Ao51, co51, eo51⟩ := Kd.R_slice HO189.out; subst eo51; obtain ⟨Ao52, co52, eo52⟩ := Kd.R_slice HO_3.out; subst eo52
             go_wp2_with (first | ((with_reducible refine gate_callee (f := 16) rfl ?_); refine goesL_ (some 78) rfl rfl Try.func16 (by kernel_rfl) rfl #[.slice Ao51 t186.length co51, .slice Ao52 t161.length co52] rfl (by (try simp only [List.map_toArray, List.map_cons, List.map_nil]); first | done | rfl | (simp only [List.length_drop, List.length_take]; rfl)) ?_; (with_reducible refine (laws_eqIntS.calls kj24 _ _ t186 _ _ t161 true _ ?side1 ?side2 ?side3 ?side4 A49.out).mono ?_); (case side1 => repeat (first | exact (Kd.R_reads' HO189.out).2.2 | (with_reducible refine Kd.C_alloc ?_ _) | (with_reducible refine Kd.C_drewN ?_ _) | (with_reducible refine Kd.C_drew ?_))); (case side2 => exact (Kd.R_reads' HO189.out).2.1); (case side3 => repeat (first | exact (Kd.R_reads' HO_3.out).2.2 | (with_reducible refine Kd.C_alloc ?_ _) | (with_reducible refine Kd.C_drewN ?_ _) | (with_reducible refine Kd.C_drew ?_))); (case side4 => exact (Kd.R_reads' HO_3.out).2.1); rintro e w' ⟨rfl, ⟨nd, rfl⟩⟩; refine ⟨_, rfl, ?_⟩))
             go_meet
             case rel => exact ⟨_, ((t187 != t162)), (fs_), H', ⟨by have := HJ6.out; have := HJ24.out; first | omega | exact Nat.le_refl _⟩, ⟨by (with_reducible repeat (first | apply Kd.R_alloc | apply Kd.R_drewN | apply Kd.R_drew)); exact Kd.R_mono HO_6.out (fun _ hk => trivial)⟩, ⟨bl_ HB.out⟩⟩
            ·replace c50 := Bool.eq_false_iff.mpr c50
             subst c50; have H1 : (laws_FnExactTermsOf.j2 kj24 t181 t180 true) = some r := by rw [if_neg (show ¬ (false = true) by decide)] at H; exact H
             clear H; have H := H1; clear H1; have H' := Aside0.mk H; clear H; obtain ⟨Ao53, co53, eo53⟩ := Kd.R_slice HO189.out; subst eo53; obtain ⟨Ao54, co54, eo54⟩ := Kd.R_slice HO_3.out; subst eo54
             go_wp2_with (first | ((with_reducible refine gate_callee (f := 16) rfl ?_); refine goesL_ (some 78) rfl rfl Try.func16 (by kernel_rfl) rfl #[.slice Ao53 t186.length co53, .slice Ao54 t161.length co54] rfl (by (try simp only [List.map_toArray, List.map_cons, List.map_nil]); first | done | rfl | (simp only [List.length_drop, List.length_take]; rfl)) ?_; (with_reducible refine (laws_eqIntS.calls kj24 _ _ t186 _ _ t161 false _ ?side1 ?side2 ?side3 ?side4 A49.out).mono ?_); (case side1 => repeat (first | exact (Kd.R_reads' HO189.out).2.2 | (with_reducible refine Kd.C_alloc ?_ _) | (with_reducible refine Kd.C_drewN ?_ _) | (with_reducible refine Kd.C_drew ?_))); (case side2 => exact (Kd.R_reads' HO189.out).2.1); (case side3 => repeat (first | exact (Kd.R_reads' HO_3.out).2.2 | (with_reducible refine Kd.C_alloc ?_ _) | (with_reducible refine Kd.C_drewN ?_ _) | (with_reducible refine Kd.C_drew ?_))); (case side4 => exact (Kd.R_reads' HO_3.out).2.1); rintro e w' ⟨rfl, ⟨nd, rfl⟩⟩; refine ⟨_, rfl, ?_⟩))
             go_meet
             case rel => exact ⟨_, (true), (fs_), H', ⟨by have := HJ6.out; have := HJ24.out; first | omega | exact Nat.le_refl _⟩, ⟨by (with_reducible repeat (first | apply Kd.R_alloc | apply Kd.R_drewN | apply Kd.R_drew)); exact Kd.R_mono HO_6.out (fun _ hk => trivial)⟩, ⟨bl_ HB.out⟩⟩
           case rest =>
            clear HC43
            try clear c1
            try clear c2
            try clear c2b0
            try clear c2b1
            try clear p2
            try clear c3
            try clear c4
            try clear c5
            try clear c12
            try clear c14
            try clear c15
            try clear c16
            try clear c20
            try clear c23
            try clear c24
            try clear c25
            try clear c29
            try clear c29b0
            try clear c31
            try clear c36
            try clear c39
            try clear c39b0
            try clear c40
            try clear c40b0
            try clear c40b1
            try clear c41
            try clear c50
            try clear p2
            obtain ⟨kq, x84_42, rfl, HA, HJ42, HO_6, HB⟩ := hcut; have hl6_42 := (Kd.R_reads' HO_6.out).1; rw [hl6_42] at HO_6
            (try simp only [hl6_42])
            cases kq with
            | zero => exact absurd HA.out (by simp [laws_FnExactTermsOf.j2])
            | succ kj42 =>
             have H := HA.out; clear HA
             simp only [laws_FnExactTermsOf.j2] at H
             by_cases c55 : x84_42 = true
             ·subst c55
              have H1 : (none) = some r := by rw [if_pos rfl] at H; exact H
              clear H; have H := H1; clear H1; exact absurd H (by simp)
             ·replace c55 := Bool.eq_false_iff.mpr c55
              subst c55; have H1 : ((laws_heldIntS.f kj42 t181 1).bind fun t191 => (if t191 < 0 then (none) else (if t191 = t180 then (some true) else (none)))) = some r := by rw [if_neg (show ¬ (false = true) by decide)] at H; exact H
              clear H; have H := H1; clear H1; replace H := Option.bind_eq_some_iff.mp H; obtain ⟨t191, A560, H⟩ := H; replace H : (if t191 < 0 then (none) else (if t191 = t180 then (some true) else (none))) = some r := H
              have A56 := Aside0.mk A560; clear A560
              by_cases c57 : t191 < 0
              ·rw [if_pos c57] at H
               exact absurd H (by simp)
              ·rw [if_neg c57] at H
               have c57b0 : decide (t191 < 0) = false := decide_eq_false c57; clear c57
               by_cases c58 : t191 = t180
               ·rw [if_pos c58] at H
                have c58b0 : (t191 == t180) = true := beq_iff_eq.mpr c58; have c58b1 : (t191 != t180) = false := bne_eq_false_iff_eq.mpr c58; clear c58; obtain rfl := Option.some.inj H
                go_wp2_with (first | ((with_reducible refine gate_callee (f := 25) rfl ?_); refine goesL_ (some 87) rfl rfl Try.func25 (by kernel_rfl) rfl #[.slice Ao44 t181.length co44, .int .i64 1] rfl (by (try simp only [List.map_toArray, List.map_cons, List.map_nil]); first | done | rfl | (simp only [List.length_drop, List.length_take]; rfl)) ?_; (with_reducible refine (laws_heldIntS.calls kj42 _ _ t181 1 t191 _ ?side1 ?side2 A56.out).mono ?_); (case side1 => repeat (first | exact (Kd.R_reads' HO_6.out).2.2 | (with_reducible refine Kd.C_alloc ?_ _) | (with_reducible refine Kd.C_drewN ?_ _) | (with_reducible refine Kd.C_drew ?_))); (case side2 => exact (Kd.R_reads' HO_6.out).2.1); rintro e w' ⟨rfl, ⟨nd, rfl⟩⟩; refine ⟨_, rfl, ?_⟩))
                go_ret
                exact ⟨by first | rfl | (simp [errW_none, errW_some] <;> rfl) | (simp [*, errW_none, errW_some] <;> rfl), bl_ HB.out⟩
               ·rw [if_neg c58] at H
                exact absurd H (by simp)
          ·rw [if_neg c40] at H
           exact absurd H (by simp)
     ·replace c23 := Bool.eq_false_iff.mpr c23
      subst c23; have H1 : (none) = some r := by rw [if_neg (show ¬ (false = true) by decide)] at H; exact H
      clear H; have H := H1; clear H1; exact absurd H (by simp)
def laws_FnExactTermsOf.Pure : Prop := ∀ (l0 : List Int), l0.length ≤ 9223372036854775807 → (∀ x ∈ l0, (Lit.int .i64 x).wf = true) → ∃ k, laws_FnExactTermsOf.f k l0 = some true
end Go.Proofs.Ytmpmmhmnjdkgcaa.PFnExactTermsOf
