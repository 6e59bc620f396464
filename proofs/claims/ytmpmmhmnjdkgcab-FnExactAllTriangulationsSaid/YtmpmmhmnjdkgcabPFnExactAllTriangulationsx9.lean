-- Written for this claim by a program of this session (wip/tools/xprint.py over the kit's printer, wip/tools/shrink.py).
import Derived.Test.YtmpmmhmnjdkgcabPFnExactAllTriangulationsx0
import Derived.Test.YtmpmmhmnjdkgcabPFnExactAllTriangulationsx3
import Derived.Test.YtmpmmhmnjdkgcabPFnExactAllTriangulationsx6
import Derived.Test.YtmpmmhmnjdkgcabPFnExactAllTriangulationsx7
import Derived.Test.YtmpmmhmnjdkgcabPFnExactAllTriangulationsx8
namespace Go.Proofs.Ytmpmmhmnjdkgcab.PFnExactAllTriangulations
open Go.RowKit Go.Proofs.YtmpmmhmnjdkgcabW.PrintWords Go.Proofs.YtmpmmhmnjdkgcabW.PrintLast Go.Proofs.YtmpmmhmnjdkgcabW.PrintMore
attribute [local go_sem] max2_int min2_int max_two min_two max_three min_three max_four min_four   -- for this text's walks alone
set_option linter.unusedVariables false
set_option linter.unusedSimpArgs false
def laws_FnExactAllTriangulations.f (k : Nat) (a0 : Int) : Prop := ∃ (s1 : List (List (S54))) (s2 : Bool) (m : Int) (mg : List (List (S54))), spec_AllTriangulations.f k a0 = some (s1, s2) ∧ impl_AllTriangulations.f k a0 = some (s1, s2) ∧ laws_eqDiagonalSS.f k s1 s1 = some true ∧ laws_markDiagonalSS.f k s1 1 = some (m, mg) ∧ laws_heldDiagonalSS.f k mg 1 = some m ∧ 0 ≤ m
set_option maxHeartbeats 16000000 in
set_option maxRecDepth 100000 in
theorem laws_FnExactAllTriangulations.calls (k : Nat) (a0 : Int) (r : Bool) (w : World) (h : laws_FnExactAllTriangulations.f k a0) :
  Calls Try.prog 5 #[.int .i64 a0] w fun e w' => e = .returned (.bool true) ∧ Below w.heap.size w w' := by
 have B0 := Aside0.mk (Below.refl w.heap.size w); obtain ⟨s1, s2, m, mg, h2, h3, h4, h8, h9, h10⟩ := h; have HS := Aside0.mk h2; have HI := Aside0.mk h3; have HE := Aside0.mk h4; have HN := Aside0.mk h8; have HH := Aside0.mk h9; have d10 : decide (m < 0) = false := decide_eq_false (by omega)
 clear h2 h3 h4 h8 h9 h10
 go_enter Try.func5, Try.ntmps5
 go_wp2_with (go_at_call 25; refine (spec_AllTriangulations.calls k a0 s1 s2 _ HS.out).mono ?_; rintro e w1 ⟨v2, rfl, hr_, hb_⟩; have HR_ := Aside0.mk hr_; have HB_ := Aside0.mk hb_; clear hr_ hb_)
 have Qs_ := Aside0.mk (Lw.segS HR_.out (Below.size B0.out)); have LO_ := Aside0.mk (Nat.le_refl w1.heap.size); have B1 := Aside0.mk (below_step B0.out HB_.out); have Qs := Qs_; have Ls := LO_; clear Qs_ LO_ HR_ HB_; obtain ⟨A3, c4, ev_⟩ := Kd.S_slice Qs.out; subst ev_; have O_s_g : Aside0 (w1.heap.size ≤ w1.heap.size) := ⟨by have h_ := Ls.out; exact h_⟩
 go_wp2_with (go_at_call 26; refine (impl_AllTriangulations.calls k a0 s1 s2 _ HI.out).mono ?_; rintro e w5 ⟨v6, rfl, hr_, hb_⟩; have HR_ := Aside0.mk hr_; have HB_ := Aside0.mk hb_; clear hr_ hb_)
 have Qg_ := Aside0.mk (Lw.segS HR_.out (Below.size B1.out)); have LO_ := Aside0.mk (Nat.le_refl w5.heap.size); have Q_ := Aside0.mk (Kd.S_below Qs.out HB_.out); clear Qs; have Qs := Q_; clear Q_; have L_ := Aside0.mk (Nat.le_trans Ls.out (Below.size HB_.out)); clear Ls; have Ls := L_; clear L_; have B2 := Aside0.mk (below_step B1.out HB_.out); have Qg := Qg_; have Lg := LO_; clear Qg_ LO_ HR_ HB_; obtain ⟨A7, c8, ev_⟩ := Kd.S_slice Qg.out; subst ev_
 go_wp2_with (go_at_call 27; refine (laws_eqDiagonalSS.calls k A7 c8 s1 A3 c4 s1 true _ (Kd.S_reads' Qg.out).2.2 (Kd.S_reads' Qg.out).2.1 (Kd.S_reads' Qs.out).2.2 (Kd.S_reads' Qs.out).2.1 HE.out).mono ?_; rintro e w9 ⟨rfl, hd_⟩; have HB_ := Aside0.mk hd_; clear hd_)
 have Q_ := Aside0.mk (Kd.S_below Qs.out HB_.out); clear Qs; have Qs := Q_; clear Q_; have L_ := Aside0.mk (Nat.le_trans Ls.out (Below.size HB_.out)); clear Ls; have Ls := L_; clear L_; have Q_ := Aside0.mk (Kd.S_below Qg.out HB_.out); clear Qg; have Qg := Q_; clear Q_; have L_ := Aside0.mk (Nat.le_trans Lg.out (Below.size HB_.out)); clear Lg; have Lg := L_; clear L_; have B3 := Aside0.mk (below_step B2.out HB_.out); clear HB_
 go_wp2_with (go_at_call 28; refine (laws_markDiagonalSS.calls k (fun k_ => w1.heap.size ≤ k_ ∧ k_ < w5.heap.size) _ s1 1 m mg w _ B3.out Qg.out HN.out).mono ?_; rintro e w10 ⟨rfl, hr_, hb_, hk_⟩; have HR_ := Aside0.mk hr_; have HB_ := Aside0.mk hb_; have HK_ := Aside0.mk hk_; clear hr_ hb_ hk_)
 have Q_ := Aside0.mk (Lw.keepS Qs.out HK_.out (fun k_ h1_ h2_ => by have := O_s_g.out; omega))
 clear Qs; have Qs := Q_; clear Q_; have L_ := Aside0.mk (Nat.le_trans Ls.out HK_.out.1); clear Ls; have Ls := L_; clear L_; clear Qg; have Qg := HR_; have L_ := Aside0.mk (Nat.le_trans Lg.out HK_.out.1); clear Lg; have Lg := L_; clear L_; have B4 := HB_; clear HR_ HB_ HK_; have ELg := Aside0.mk (Kd.S_reads' Qg.out).1; have hcon_ := laws_heldDiagonalSS.calls k A7 c8 mg 1 m _ (Kd.S_reads' Qg.out).2.2 (by have := (Kd.S_reads' Qg.out).2.1; rw [ELg.out] at this; exact this) HH.out
 rw [← ELg.out] at hcon_
 have HCON := Aside0.mk hcon_; clear hcon_
 go_wp2_with (go_at_call 29; refine HCON.out.mono ?_; rintro e w11 ⟨rfl, hd_⟩; have HB_ := Aside0.mk (Lw.below_of hd_); clear hd_)
 clear HCON; have Q_ := Aside0.mk (Kd.S_below Qs.out HB_.out); clear Qs; have Qs := Q_; clear Q_; have L_ := Aside0.mk (Nat.le_trans Ls.out (Below.size HB_.out)); clear Ls; have Ls := L_; clear L_; have Q_ := Aside0.mk (Kd.S_below Qg.out HB_.out); clear Qg; have Qg := Q_; clear Q_; have L_ := Aside0.mk (Nat.le_trans Lg.out (Below.size HB_.out)); clear Lg; have Lg := L_; clear L_; have B5 := Aside0.mk (below_step B4.out HB_.out); clear HB_
 go_wp2_with (go_at_call 26; refine (impl_AllTriangulations.calls k a0 s1 s2 _ HI.out).mono ?_; rintro e w12 ⟨v13, rfl, hr_, hb_⟩; have HR_ := Aside0.mk hr_; have HB_ := Aside0.mk hb_; clear hr_ hb_)
 have Qh_ := Aside0.mk (Lw.segS HR_.out (Below.size B5.out)); have LO_ := Aside0.mk (Nat.le_refl w12.heap.size); have Q_ := Aside0.mk (Kd.S_below Qs.out HB_.out); clear Qs; have Qs := Q_; clear Q_; have L_ := Aside0.mk (Nat.le_trans Ls.out (Below.size HB_.out)); clear Ls; have Ls := L_; clear L_; have Q_ := Aside0.mk (Kd.S_below Qg.out HB_.out); clear Qg; have Qg := Q_; clear Q_; have L_ := Aside0.mk (Nat.le_trans Lg.out (Below.size HB_.out)); clear Lg; have Lg := L_; clear L_; have B6 := Aside0.mk (below_step B5.out HB_.out); have Qh := Qh_; have Lh := LO_; clear Qh_ LO_ HR_ HB_; obtain ⟨A14, c15, ev_⟩ := Kd.S_slice Qh.out; subst ev_
 go_wp2_with (go_at_call 27; refine (laws_eqDiagonalSS.calls k A14 c15 s1 A3 c4 s1 true _ (Kd.S_reads' Qh.out).2.2 (Kd.S_reads' Qh.out).2.1 (Kd.S_reads' Qs.out).2.2 (Kd.S_reads' Qs.out).2.1 HE.out).mono ?_; rintro e w16 ⟨rfl, hd_⟩; have HB_ := Aside0.mk hd_; clear hd_)
 have Q_ := Aside0.mk (Kd.S_below Qs.out HB_.out); clear Qs; have Qs := Q_; clear Q_; have L_ := Aside0.mk (Nat.le_trans Ls.out (Below.size HB_.out)); clear Ls; have Ls := L_; clear L_; have Q_ := Aside0.mk (Kd.S_below Qg.out HB_.out); clear Qg; have Qg := Q_; clear Q_; have L_ := Aside0.mk (Nat.le_trans Lg.out (Below.size HB_.out)); clear Lg; have Lg := L_; clear L_; have Q_ := Aside0.mk (Kd.S_below Qh.out HB_.out); clear Qh; have Qh := Q_; clear Q_; have L_ := Aside0.mk (Nat.le_trans Lh.out (Below.size HB_.out)); clear Lh; have Lh := L_; clear L_; have B7 := Aside0.mk (below_step B6.out HB_.out); clear HB_; clear Qh Lh; have hcon_ := laws_heldDiagonalSS.calls k A7 c8 mg 1 m _ (Kd.S_reads' Qg.out).2.2 (by have := (Kd.S_reads' Qg.out).2.1; rw [ELg.out] at this; exact this) HH.out
 rw [← ELg.out] at hcon_
 have HCON := Aside0.mk hcon_; clear hcon_
 go_wp2_with (go_at_call 29; refine HCON.out.mono ?_; rintro e w17 ⟨rfl, hd_⟩; have HB_ := Aside0.mk (Lw.below_of hd_); clear hd_)
 clear HCON; have Q_ := Aside0.mk (Kd.S_below Qs.out HB_.out); clear Qs; have Qs := Q_; clear Q_; have L_ := Aside0.mk (Nat.le_trans Ls.out (Below.size HB_.out)); clear Ls; have Ls := L_; clear L_; have Q_ := Aside0.mk (Kd.S_below Qg.out HB_.out); clear Qg; have Qg := Q_; clear Q_; have L_ := Aside0.mk (Nat.le_trans Lg.out (Below.size HB_.out)); clear Lg; have Lg := L_; clear L_; have B8 := Aside0.mk (below_step B7.out HB_.out); clear HB_
 go_ret
 exact ⟨rfl, B8.out⟩
def laws_FnExactAllTriangulations.Pure : Prop := ∀ (a0 : Int), (Lit.int .i64 a0).wf = true → ∃ k, laws_FnExactAllTriangulations.f k a0
theorem laws_FnExactAllTriangulations.walk (P : laws_FnExactAllTriangulations.Pure) (a0 : Int) (w : World) (h0 : (Lit.int .i64 a0).wf = true) : Calls Try.prog 5 #[.int .i64 a0] w fun e w' => e = .returned (.bool true) ∧ Below w.heap.size w w' := by
 obtain ⟨k, h⟩ := P a0 h0; exact laws_FnExactAllTriangulations.calls k a0 true w h
end Go.Proofs.Ytmpmmhmnjdkgcab.PFnExactAllTriangulations
