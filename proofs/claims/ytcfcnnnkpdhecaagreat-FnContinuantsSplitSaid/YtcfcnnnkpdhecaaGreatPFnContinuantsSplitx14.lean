-- Written for this claim by a program of this session (wip/tools/xprint.py over the kit's printer, wip/tools/shrink.py).
import Derived.Test.YtcfcnnnkpdhecaaGreatPFnContinuantsSplitx0
import Derived.Test.YtcfcnnnkpdhecaaGreatPFnContinuantsSplitx11
namespace Go.Proofs.YtcfcnnnkpdhecaaGreat.PFnContinuantsSplit
open Go.RowKit Go.Proofs.YtcfcnnnkpdhecaaGreatW.PrintWords Go.Proofs.YtcfcnnnkpdhecaaGreatW.PrintLast Go.Proofs.YtcfcnnnkpdhecaaGreatW.PrintMore
attribute [local go_sem] max2_int min2_int max_two min_two max_three min_three max_four min_four   -- for this text's walks alone
set_option linter.unusedVariables false
set_option linter.unusedSimpArgs false
mutual
def impl_Diagonal__at_impl_compareDiagonals_91.l0 : Nat → List (S80) → Int → Int → Int → Option ((List (S80)))
 | 0, _, _, _, _ => none
 | k + 1, x0, x1, x2, x8 => if x8 < x2 then (impl_Diagonal__at_impl_compareDiagonals_91.l1 k x0 x1 x2 x8 x8) else (some x0)
def impl_Diagonal__at_impl_compareDiagonals_91.l1 : Nat → List (S80) → Int → Int → Int → Int → Option ((List (S80)))
 | 0, _, _, _, _, _ => none
 | k + 1, x0, x1, x2, x8, x9 => if x9 > x1 then (if 0 ≤ x9 then (if x9 < (x0.length : Int) then (if 0 ≤ (wrap64 (x9 - 1)) then (if (wrap64 (x9 - 1)) < (x0.length : Int) then ((impl_compareDiagonals.f k ((rd_T80 x0 x9).f0) ((rd_T80 x0 x9).f1) ((rd_T80 x0 (wrap64 (x9 - 1))).f0) ((rd_T80 x0 (wrap64 (x9 - 1))).f1)).bind fun t414 => (if t414 < 0 then (impl_Diagonal__at_impl_compareDiagonals_91.l1 k ((x0.set (x9 : Int).toNat (⟨(rd_T80 x0 (wrap64 (x9 - 1))).f0, (rd_T80 x0 (wrap64 (x9 - 1))).f1⟩ : S80)).set ((wrap64 (x9 - 1)) : Int).toNat (⟨(rd_T80 x0 x9).f0, (rd_T80 x0 x9).f1⟩ : S80)) x1 x2 x8 (wrap64 (x9 - 1))) else (impl_Diagonal__at_impl_compareDiagonals_91.l0 k x0 x1 x2 (wrap64 (x8 + 1))))) else (none)) else (none)) else (none)) else (none)) else (impl_Diagonal__at_impl_compareDiagonals_91.l0 k x0 x1 x2 (wrap64 (x8 + 1)))
end
def impl_Diagonal__at_impl_compareDiagonals_91.f (k : Nat) (l0 : List (S80)) (a1 : Int) (a2 : Int)  : Option ((List (S80))) := impl_Diagonal__at_impl_compareDiagonals_91.l0 k l0 a1 a2 (wrap64 (a1 + 1))
def impl_Diagonal__at_impl_compareDiagonals_91.T4 : Bool × List (List Nat × List Nat) := (true, [([], []), ([], []), ([0, 1], [0, 1]), ([2], [2]), ([3], [3]), ([3], [3]), ([3], [3]), ([5, 6, 3], [3, 5, 6]), ([7, 3], [3, 7]), ([3], [3]), ([3], [3]), ([10, 3], [3, 10]), ([9, 11, 3], [3, 9, 11]), ([12, 3], [3, 12]), ([4, 8, 13, 3, 3], [3, 4, 8, 13]), ([14, 3], [3, 14]), ([3, 15], [3, 15])])
def impl_Diagonal__at_impl_compareDiagonals_91.B4 : List Nat := [0, 0, 3, 7, 15, 15, 15, 111, 239, 15, 15, 1039, 3599, 7695, 16383, 32767, 65535]
theorem impl_Diagonal__at_impl_compareDiagonals_91.tab4 : rtab .any (opsOf Tryz.f91 4) = impl_Diagonal__at_impl_compareDiagonals_91.T4 := by kernel_rfl
theorem impl_Diagonal__at_impl_compareDiagonals_91.bits4 : waitsOk impl_Diagonal__at_impl_compareDiagonals_91.T4.2 impl_Diagonal__at_impl_compareDiagonals_91.B4 = true := by kernel_rfl
def impl_Diagonal__at_impl_compareDiagonals_91.T6 : Bool × List (List Nat × List Nat) := (true, [([], []), ([], []), ([], []), ([], []), ([3], [3]), ([], []), ([], []), ([6], [6]), ([5, 7], [5, 7]), ([8], [8]), ([], []), ([], []), ([10, 11], [10, 11]), ([12], [12]), ([0, 1, 0, 1, 5, 6, 7, 8, 9, 13], [0, 1]), ([14, 9, 0, 1, 5, 6, 7, 8, 9, 13], [9, 14]), ([2, 4, 0, 1, 2, 3, 4, 5, 6, 7, 8, 9, 10, 11, 12, 13, 14, 15], [2, 4]), ([16, 13, 15, 0, 1, 2, 3, 4, 5, 6, 7, 8, 9, 10, 11, 12, 13, 14, 15], [13, 16])])
def impl_Diagonal__at_impl_compareDiagonals_91.B6 : List Nat := [0, 0, 0, 0, 8, 0, 0, 64, 224, 480, 0, 0, 3072, 7168, 16355, 32739, 65535, 131071]
theorem impl_Diagonal__at_impl_compareDiagonals_91.tab6 : rtab .any (opsOf Tryz.f91 6) = impl_Diagonal__at_impl_compareDiagonals_91.T6 := by kernel_rfl
theorem impl_Diagonal__at_impl_compareDiagonals_91.bits6 : waitsOk impl_Diagonal__at_impl_compareDiagonals_91.T6.2 impl_Diagonal__at_impl_compareDiagonals_91.B6 = true := by kernel_rfl
set_option maxHeartbeats 8000000 in
set_option maxRecDepth 100000 in
theorem impl_Diagonal__at_impl_compareDiagonals_91.calls (k : Nat) (P0_ : Nat → Prop) (u9000_ : Value) (l0 : List (S80)) (a1 : Int) (a2 : Int)  (r : List (S80)) (w0 w : World) (hB : Below w0.heap.size w0 w) (ho0 : Kd.R k80 80 w w0.heap.size P0_ u9000_ l0) (h : impl_Diagonal__at_impl_compareDiagonals_91.f k l0 a1 a2 = some r) :
  Calls Tryz.prog 91 #[u9000_, .int .i64 a1, .int .i64 a2, .func (.func 78) #[] #[]] w fun e w' => e = .returned (.tuple #[]) ∧ Kd.R k80 80 w' w0.heap.size (fun k_ => (P0_ k_ ∨ w.heap.size ≤ k_)) u9000_ r ∧ Below w0.heap.size w0 w' ∧ Kept w w' (fun k_ => P0_ k_) := by
 have hu80 := Tryz.underlying80; have HO0 := Aside0.mk (show Kd.R k80 80 w w0.heap.size (fun k_ => (P0_ k_ ∨ w.heap.size ≤ k_)) u9000_ l0 from Kd.R_mono ho0 (fun k_ hk => (.inl hk)))
 have HK := Aside0.mk (Kept.refl w (fun k_ => P0_ k_))
 have HW0 := Aside0.mk hB.size; have HB := Aside0.mk hB; clear hB; have H : (impl_Diagonal__at_impl_compareDiagonals_91.l0 k l0 a1 a2 (wrap64 (a1 + 1))) = some r := h; clear h; have H' := Aside0.mk H; clear H
 go_enter Tryz.func91, Tryz.ntmps91
 go_wp2
 go_loopg [8] k (fun kq v8 w' => ∃ (x0_1 : List (S80)) (x8_1 : Int), v8 = .int .i64 x8_1 ∧ Aside0 (impl_Diagonal__at_impl_compareDiagonals_91.l0 kq x0_1 a1 a2 x8_1 = some r) ∧ Aside0 (kq ≤ k) ∧ Aside0 (Kd.R k80 80 w' w0.heap.size (fun k_ => (P0_ k_ ∨ w.heap.size ≤ k_)) u9000_ x0_1) ∧ Aside0 (Kept w w' (fun k_ => P0_ k_)) ∧ Aside0 (Below w0.heap.size w0 w'))
 case atStart => exact ⟨(l0), (wrap64 (a1 + 1)), (fs_), H', ⟨Nat.le_refl _⟩, ⟨kr_ HO0.out⟩, ⟨by repeat (first | (with_reducible first | exact HK.out | apply Kept.alloc | apply Kept.drewN | apply Kept.drew) | exact HK.out)⟩, ⟨bl_ HB.out⟩⟩
 case round =>
  clear H'
  try clear p2
  obtain ⟨x0_1, x8_1, rfl, HA, HK1, HO_0, HK, HB⟩ := hrel
  cases gk with
  | zero => exact absurd HA.out (by simp [impl_Diagonal__at_impl_compareDiagonals_91.l0])
  | succ k1 =>
   have H := HA.out; clear HA
   simp only [impl_Diagonal__at_impl_compareDiagonals_91.l0] at H
   by_cases c5 : x8_1 < a2
   ·rw [if_pos c5] at H
    have c5b0 : decide (x8_1 < a2) = true := decide_eq_true c5; clear c5; have H' := Aside0.mk H; clear H
    go_wp2
    go_loopg [9] k1 (fun kq v9 w' => ∃ (x0_2 : List (S80)) (x9_2 : Int), v9 = .int .i64 x9_2 ∧ Aside0 (impl_Diagonal__at_impl_compareDiagonals_91.l1 kq x0_2 a1 a2 x8_1 x9_2 = some r) ∧ Aside0 (kq ≤ k1) ∧ Aside0 (Kd.R k80 80 w' w0.heap.size (fun k_ => (P0_ k_ ∨ w.heap.size ≤ k_)) u9000_ x0_2) ∧ Aside0 (Kept w w' (fun k_ => P0_ k_)) ∧ Aside0 (Below w0.heap.size w0 w'))
    case atStart => exact ⟨(x0_1), (x8_1), (fs_), H', ⟨Nat.le_refl _⟩, ⟨kr_ HO_0.out⟩, ⟨by repeat (first | (with_reducible first | exact HK.out | apply Kept.alloc | apply Kept.drewN | apply Kept.drew) | exact HK.out)⟩, ⟨bl_ HB.out⟩⟩
    case round =>
     clear H'
     try clear p2
     try clear c5
     try clear c5b0
     try clear p2
     obtain ⟨x0_2, x9_2, rfl, HA, HK2, HO_0, HK, HB⟩ := hrel
     cases gk with
     | zero => exact absurd HA.out (by simp [impl_Diagonal__at_impl_compareDiagonals_91.l1])
     | succ k2 =>
      have H := HA.out; clear HA
      simp only [impl_Diagonal__at_impl_compareDiagonals_91.l1] at H
      by_cases c6 : x9_2 > a1
      ·rw [if_pos c6] at H
       have c6b0 : decide (a1 < x9_2) = true := decide_eq_true c6; clear c6
       by_cases c7 : 0 ≤ x9_2
       ·rw [if_pos c7] at H
        have c7b0 : decide (0 ≤ x9_2) = true := decide_eq_true c7; clear c7
        by_cases c8 : x9_2 < (x0_2.length : Int)
        ·rw [if_pos c8] at H
         have c8b0 : decide (x9_2 < (x0_2.length : Int)) = true := decide_eq_true c8; clear c8; obtain ⟨ji9, hji9⟩ : ∃ j_ : Int, (wrap64 (x9_2 - 1)) = j_ := ⟨_, rfl⟩; replace H : (if 0 ≤ (ji9) then (if (ji9) < (x0_2.length : Int) then ((impl_compareDiagonals.f k2 ((rd_T80 x0_2 x9_2).f0) ((rd_T80 x0_2 x9_2).f1) ((rd_T80 x0_2 (ji9)).f0) ((rd_T80 x0_2 (ji9)).f1)).bind fun t414 => (if t414 < 0 then (impl_Diagonal__at_impl_compareDiagonals_91.l1 k2 ((x0_2.set (x9_2 : Int).toNat (⟨(rd_T80 x0_2 (ji9)).f0, (rd_T80 x0_2 (ji9)).f1⟩ : S80)).set ((ji9) : Int).toNat (⟨(rd_T80 x0_2 x9_2).f0, (rd_T80 x0_2 x9_2).f1⟩ : S80)) a1 a2 x8_1 ji9) else (impl_Diagonal__at_impl_compareDiagonals_91.l0 k2 x0_2 a1 a2 (wrap64 (x8_1 + 1))))) else (none)) else (none)) = some r := by first | (rw [hji9] at H; exact H) | (simp only [hji9] at H ⊢; exact H)
         have hji9w : (IntKind.i64.wrap (x9_2 - 1)) = ji9 := (i64_w _).trans hji9
         by_cases c10 : 0 ≤ (ji9)
         ·rw [if_pos c10] at H
          have c10b0 : decide (0 ≤ (ji9)) = true := decide_eq_true c10; clear c10
          by_cases c11 : (ji9) < (x0_2.length : Int)
          ·rw [if_pos c11] at H
           have c11b0 : decide ((ji9) < (x0_2.length : Int)) = true := decide_eq_true c11; clear c11; replace H := Option.bind_eq_some_iff.mp H; obtain ⟨t414, A120, H⟩ := H; have A12 := Aside0.mk A120; clear A120
           by_cases c13 : t414 < 0
           ·rw [if_pos c13] at H
            have c13b0 : decide (t414 < 0) = true := decide_eq_true c13; clear c13; obtain ⟨y417, hy417⟩ : ∃ y_ : List (S80), y_ = (x0_2.set (x9_2 : Int).toNat (⟨(rd_T80 x0_2 (ji9)).f0, (rd_T80 x0_2 (ji9)).f1⟩ : S80)) := ⟨_, rfl⟩; replace H : (impl_Diagonal__at_impl_compareDiagonals_91.l1 k2 (y417.set ((ji9) : Int).toNat (⟨(rd_T80 x0_2 x9_2).f0, (rd_T80 x0_2 x9_2).f1⟩ : S80)) a1 a2 x8_1 ji9) = some r := rh_ hy417 H; have Ny417 := Aside0.mk hy417; clear hy417; obtain ⟨y418, hy418⟩ : ∃ y_ : List (S80), y_ = (y417.set ((ji9) : Int).toNat (⟨(rd_T80 x0_2 x9_2).f0, (rd_T80 x0_2 x9_2).f1⟩ : S80)) := ⟨_, rfl⟩; replace H : (impl_Diagonal__at_impl_compareDiagonals_91.l1 k2 y418 a1 a2 x8_1 ji9) = some r := rh_ hy418 H; have Ny418 := Aside0.mk hy418; clear hy418; have H' := Aside0.mk H; clear H
            try go_wp2
            replace HO_0 := Aside0.mk (Kd.R_drew HO_0.out); replace HK := Aside0.mk (Kept.drew HK.out); replace HB := Aside0.mk (below_drew1 HB.out); obtain ⟨Ao17, co17, eo17⟩ := Kd.R_slice HO_0.out
            (first | subst eo17 | (injection eo17 with f1_ f2_ f3_; have f4_ := f1_.symm; have f5_ := f3_.symm; clear f1_ f2_ f3_; subst f4_; subst f5_))
            have p412 : 0 ≤ (x9_2 : Int) := of_decide_eq_true as_; have q412 : x9_2 < (x0_2.length : Int) := of_decide_eq_true as_; obtain ⟨ad412, e412, hx412_0, hx412_1⟩ := at_T80 (Kd.R_reads' HO_0.out).2.2 x9_2 p412 q412
            cases e412
            replace p412 := eq_true p412; replace q412 := eq_true q412; have p413 : 0 ≤ ((ji9) : Int) := of_decide_eq_true as_; have q413 : (ji9) < (x0_2.length : Int) := of_decide_eq_true as_; obtain ⟨ad413, e413, hx413_0, hx413_1⟩ := at_T80 (Kd.R_reads' HO_0.out).2.2 (ji9) p413 q413; obtain rfl : ad412 = ad413 := (by injection e413)
            replace p413 := eq_true p413; replace q413 := eq_true q413; refine start_ (n := 17) (S := fun w' => w'.cell? (ad412.add ((x9_2).toNat * 2)) = some (.int .i64 ((rd_T80 x0_2 x9_2).f0)) ∧ w'.cell? ⟨(ad412.add ((x9_2).toNat * 2)).block, (ad412.add ((x9_2).toNat * 2)).off + 1, none⟩ = some (.int .i64 ((rd_T80 x0_2 x9_2).f1)) ∧ w'.cell? (ad412.add (((ji9)).toNat * 2)) = some (.int .i64 ((rd_T80 x0_2 (ji9)).f0)) ∧ w'.cell? ⟨(ad412.add (((ji9)).toNat * 2)).block, (ad412.add (((ji9)).toNat * 2)).off + 1, none⟩ = some (.int .i64 ((rd_T80 x0_2 (ji9)).f1))) (ds := []) #[false, false, false, false, false, false, false, false, false, false, false, false, false, false, false, false, false] (by kernel_rfl) rfl rfl ⟨hx412_0, hx412_1, hx413_0, hx413_1⟩ (fun hHeld => ?_); refine with_tabW impl_Diagonal__at_impl_compareDiagonals_91.tab4 impl_Diagonal__at_impl_compareDiagonals_91.bits4 (fun HT_ HW_ => ?_)
            generalize wr.drew = w16 at HO_0 HK HB hx412_0 hx412_1 hx413_0 hx413_1 hHeld ⊢
            refine pa_ 0 (some 18) rfl rfl HT_ ?_; refine pa_ 1 (some 19) rfl rfl HT_ ?_; refine pa_ 2 (some 20) rfl rfl HT_ ?_; refine pa_ 3 (some 21) rfl rfl HT_ ?_; refine pa_ 4 (some 22) rfl rfl HT_ ?_; refine pa_ 5 (some 23) rfl rfl HT_ ?_; refine pa_ 6 (some 24) rfl rfl HT_ ?_; refine pa_ 7 (some 25) rfl rfl HT_ ?_; refine pa_ 9 (some 27) rfl rfl HT_ ?_; refine pa_ 10 (some 28) rfl rfl HT_ ?_; refine pa_ 11 (some 29) rfl rfl HT_ ?_; refine pa_ 12 (some 30) rfl rfl HT_ ?_; refine ta0_ 8 (some 26) rfl rfl HT_ HW_ hHeld ?_; refine ta0_ 13 (some 31) rfl rfl HT_ HW_ hHeld ?_; refine one_ (i := 14) (N := some 32) #[true, true, true, true, true, true, true, true, true, true, true, true, true, true, true, false, false] rfl rfl (one_of HT_.out (by kernel_rfl)) (by decide) (fun K hK => ?_)
            refine goesV_ (.tmp 22) (by rfl) Tryz.func78 (by kernel_rfl) rfl #[.agg #[.int .i64 ((rd_T80 x0_2 x9_2).f0), .int .i64 ((rd_T80 x0_2 x9_2).f1)], .agg #[.int .i64 ((rd_T80 x0_2 (ji9)).f0), .int .i64 ((rd_T80 x0_2 (ji9)).f1)]] (by rfl) rfl rfl (by (try simp only [List.map_toArray, List.map_cons, List.map_nil]); first | done | (simp only [hji9]; rfl) | rfl | (simp only [List.length_drop, List.length_take]; rfl)) ?_
            with_reducible refine (impl_compareDiagonals.calls k2 ((rd_T80 x0_2 x9_2).f0) ((rd_T80 x0_2 x9_2).f1) ((rd_T80 x0_2 (ji9)).f0) ((rd_T80 x0_2 (ji9)).f1) t414 _ A12.out).mono ?_
            rintro e w18 ⟨rfl, hb⟩
            have HS0_ := (hb.cell (World.block_lt_of_cell? _ _ (hHeld.1))).trans (hHeld.1); have HS1_ := (hb.cell (World.block_lt_of_cell? _ _ (hHeld.2.1))).trans (hHeld.2.1); have HS2_ := (hb.cell (World.block_lt_of_cell? _ _ (hHeld.2.2.1))).trans (hHeld.2.2.1); have HS3_ := (hb.cell (World.block_lt_of_cell? _ _ (hHeld.2.2.2))).trans (hHeld.2.2.2); refine ⟨_, rfl, ?_⟩; have n0_ := Aside0.mk (Kd.R_below (kr_ HO_0.out) hb); have n1_ := Aside0.mk (Kept.below (S := (fun k_ => P0_ k_)) (by repeat (first | (with_reducible first | exact HK.out | apply Kept.alloc | apply Kept.drewN | apply Kept.drew) | exact HK.out)) hb)
            have n2_ := Aside0.mk (below_step (bl_ HB.out) hb); clear HO_0; clear HK; clear HB; have HO_0 := n0_; have HK := n1_; have HB := n2_; clear n0_ n1_ n2_
            (try clear hb)
            (try clear hb2)
            (try clear hk)
            (try clear hi)
            refine hK.out _ _ ⟨HS0_, HS1_, HS2_, HS3_⟩ (fun hHeld => ?_)
            clear hK K; refine na_ (some 32) ?_; refine pa_ 15 (some 33) rfl rfl HT_ ?_; refine pa_ 16 (some 34) rfl rfl HT_ ?_; refine done_ (done_of HT_.out (by kernel_rfl)) ?_
            try go_wp2
            replace HO_0 := Aside0.mk (Kd.R_drew HO_0.out); replace HK := Aside0.mk (Kept.drew HK.out); replace HB := Aside0.mk (below_drew1 HB.out); have p415 : 0 ≤ ((ji9) : Int) := of_decide_eq_true as_; have q415 : (ji9) < (x0_2.length : Int) := of_decide_eq_true as_; obtain ⟨ad415, e415, hx415_0, hx415_1⟩ := at_T80 (Kd.R_reads' HO_0.out).2.2 (ji9) p415 q415; obtain rfl : ad412 = ad415 := (by injection e415)
            replace p415 := eq_true p415; replace q415 := eq_true q415; have p416 : 0 ≤ (x9_2 : Int) := of_decide_eq_true as_; have q416 : x9_2 < (x0_2.length : Int) := of_decide_eq_true as_; obtain ⟨ad416, e416, hx416_0, hx416_1⟩ := at_T80 (Kd.R_reads' HO_0.out).2.2 x9_2 p416 q416; obtain rfl : ad412 = ad416 := (by injection e416)
            replace p416 := eq_true p416; replace q416 := eq_true q416; have p14 : 0 ≤ (x9_2 : Int) := of_decide_eq_true as_; have q14 : (x9_2 : Int) < ((x0_2.length : Int) : Int) := of_decide_eq_true as_; obtain ⟨go14, co14, eo14, gb14, gl14, cl14, HG14⟩ := Kd.R_form HO_0.out (by omega)
            (first | cases eo14 | (injection eo14 with ea_ en_ ec_; (first | subst ea_ | (injection ea_ with ea_; subst ea_)); subst ec_; clear en_))
            have GB14 := Aside0.mk gb14; have GG14 := Aside0.mk HG14; clear gb14 gl14 HG14; have HMgo14 := Aside0.mk (show (P0_ go14 ∨ w.heap.size ≤ go14) from (HO_0.out.1 _ rfl))
            (first | simp only [add_plain] at hx412_0 | skip)
            (first | simp only [add_plain] at hx412_1 | skip)
            (first | simp only [add_plain] at hx413_0 | skip)
            (first | simp only [add_plain] at hx413_1 | skip)
            (first | simp only [add_plain] at hx415_0 | skip)
            (first | simp only [add_plain] at hx415_1 | skip)
            (first | simp only [add_plain] at hx416_0 | skip)
            (first | simp only [add_plain] at hx416_1 | skip)
            obtain ⟨ce14, hcl14, hM14, hcc14, hfr14⟩ := Kd.R_elem HO_0.out z80 (x9_2 : Int) p14 q14; obtain rfl := k80_openM hM14; have hx14_0 : World.cell? _ ⟨go14, (x9_2 : Int).toNat * 2, none⟩ = some (.int .i64 ((rd_T80 x0_2 x9_2).f0)) := hcc14 0 _ rfl; have hx14_1 : World.cell? _ ⟨go14, (x9_2 : Int).toNat * 2 + 1, none⟩ = some (.int .i64 ((rd_T80 x0_2 x9_2).f1)) := hcc14 1 _ rfl; have hf14_0 : World.frozen? _ ⟨go14, (x9_2 : Int).toNat * 2, none⟩ = false := hfr14 0; have hf14_1 : World.frozen? _ ⟨go14, (x9_2 : Int).toNat * 2 + 1, none⟩ = false := hfr14 1; clear hcl14 hcc14 hfr14; (try clear hM14)
            replace p14 := eq_true p14; replace q14 := eq_true q14; obtain ⟨ce20, hcl20, hM20, hcc20, hfr20⟩ := Kd.R_elem HO_0.out z80 (x9_2 : Int) (of_decide_eq_true as_) (by have h_ : (x9_2 : Int) < ((x0_2.length : Int) : Int) := of_decide_eq_true as_; first | exact h_ | (have e_ := (Kd.R_reads' HO_0.out).1; omega) | simpa using h_)
            obtain rfl := k80_openM hM20; have HP20 := (Kd.R_seg HO_0.out (x9_2 : Int) (of_decide_eq_true as_) (by have h_ : (x9_2 : Int) < ((x0_2.length : Int) : Int) := of_decide_eq_true as_; first | exact h_ | (have e_ := (Kd.R_reads' HO_0.out).1; omega) | simpa using h_) (seg := [.int .i64 ((rd_T80 x0_2 (ji9)).f0), .int .i64 ((rd_T80 x0_2 (ji9)).f1)]) (j := 0) hcl20 hcc20 (show 2 ≤ 2 from by decide) (x' := (⟨(rd_T80 x0_2 (ji9)).f0, (rd_T80 x0_2 (ji9)).f1⟩ : S80)) (k80_mkM _ _ _ (⟨(rd_T80 x0_2 (ji9)).f0, (rd_T80 x0_2 (ji9)).f1⟩ : S80) ) (fun _ hk => hk)).1
            rw [← Ny417.out] at HP20
            have HQ20 := Aside0.mk HP20; clear hcl20 hcc20 hfr20 HP20; (try clear hM20)
            have p15 : 0 ≤ ((ji9) : Int) := of_decide_eq_true as_; have q15 : ((ji9) : Int) < ((x0_2.length : Int) : Int) := of_decide_eq_true as_; obtain ⟨ce15, hcl15, hM15, hcc15, hfr15⟩ := Kd.R_elem HQ20.out z80 ((ji9) : Int) p15 q15; obtain rfl := k80_openM hM15; have hx15_0 : World.cell? _ ⟨go14, ((ji9) : Int).toNat * 2, none⟩ = some (.int .i64 ((rd_T80 y417 (ji9)).f0)) := hcc15 0 _ rfl; have hx15_1 : World.cell? _ ⟨go14, ((ji9) : Int).toNat * 2 + 1, none⟩ = some (.int .i64 ((rd_T80 y417 (ji9)).f1)) := hcc15 1 _ rfl; have hf15_0 : World.frozen? _ ⟨go14, ((ji9) : Int).toNat * 2, none⟩ = false := hfr15 0; have hf15_1 : World.frozen? _ ⟨go14, ((ji9) : Int).toNat * 2 + 1, none⟩ = false := hfr15 1; clear hcl15 hcc15 hfr15; (try clear hM15)
            replace p15 := eq_true p15; replace q15 := eq_true q15; obtain ⟨ce21, hcl21, hM21, hcc21, hfr21⟩ := Kd.R_elem HQ20.out z80 ((ji9) : Int) (of_decide_eq_true as_) (by have h_ : ((ji9) : Int) < ((x0_2.length : Int) : Int) := of_decide_eq_true as_; first | exact h_ | (have e_ := (Kd.R_reads' HO_0.out).1; omega) | simpa using h_)
            obtain rfl := k80_openM hM21; have HP21 := (Kd.R_seg HQ20.out ((ji9) : Int) (of_decide_eq_true as_) (by have h_ : ((ji9) : Int) < ((x0_2.length : Int) : Int) := of_decide_eq_true as_; first | exact h_ | (have e_ := (Kd.R_reads' HO_0.out).1; omega) | simpa using h_) (seg := [.int .i64 ((rd_T80 x0_2 x9_2).f0), .int .i64 ((rd_T80 x0_2 x9_2).f1)]) (j := 0) hcl21 hcc21 (show 2 ≤ 2 from by decide) (x' := (⟨(rd_T80 x0_2 x9_2).f0, (rd_T80 x0_2 x9_2).f1⟩ : S80)) (k80_mkM _ _ _ (⟨(rd_T80 x0_2 x9_2).f0, (rd_T80 x0_2 x9_2).f1⟩ : S80) ) (fun _ hk => hk)).1
            rw [← Ny418.out] at HP21
            have HQ21 := Aside0.mk HP21; clear hcl21 hcc21 hfr21 HP21; (try clear hM21)
            have hnj1_ : ¬ (x9_2.toNat = ji9.toNat) := by have h1_ := hji9; have h2_ : 0 ≤ ji9 := of_decide_eq_true (by assumption); have h3_ : 0 ≤ x9_2 := of_decide_eq_true (by assumption); unfold wrap64 at h1_; omega
            have hnj2_ : ¬ (ji9.toNat = x9_2.toNat) := fun h_ => hnj1_ h_.symm
            refine start_ (n := 18) (S := fun w' => w'.cell? ⟨go14, (((ji9)).toNat * 2), none⟩ = some (.int .i64 ((rd_T80 x0_2 (ji9)).f0)) ∧ w'.cell? ⟨go14, (((ji9)).toNat * 2) + 1, none⟩ = some (.int .i64 ((rd_T80 x0_2 (ji9)).f1)) ∧ w'.cell? ⟨go14, ((x9_2).toNat * 2), none⟩ = some (.int .i64 ((rd_T80 x0_2 x9_2).f0)) ∧ w'.cell? ⟨go14, ((x9_2).toNat * 2) + 1, none⟩ = some (.int .i64 ((rd_T80 x0_2 x9_2).f1))) (ds := [15, 17]) #[false, false, false, false, false, false, false, false, false, false, false, false, false, false, false, false, false, false] (by kernel_rfl) rfl rfl ⟨hx415_0, hx415_1, hx416_0, hx416_1⟩ (fun hHeld => ?_); refine with_tabW impl_Diagonal__at_impl_compareDiagonals_91.tab6 impl_Diagonal__at_impl_compareDiagonals_91.bits6 (fun HT_ HW_ => ?_)
            generalize w18.drew = w19 at HO_0 HK HB GG14 HQ20 HQ21 hf14_0 hf14_1 hf15_0 hf15_1 hx14_0 hx14_1 hx15_0 hx15_1 hx412_0 hx412_1 hx413_0 hx413_1 hx415_0 hx415_1 hx416_0 hx416_1 hHeld ⊢
            obtain ⟨cez_, hz1_, hz2_, hz3_, hfrz_⟩ := Kd.R_elem HO_0.out z80 (ji9) (of_decide_eq_true (by assumption)) (of_decide_eq_true (by assumption))
            have hfz0_ : World.frozen? _ ⟨go14, (ji9 : Int).toNat * 2, none⟩ = false := hfrz_ 0; have hfz1_ : World.frozen? _ ⟨go14, (ji9 : Int).toNat * 2 + 1, none⟩ = false := hfrz_ 1; clear hz1_ hz2_ hz3_ hfrz_; refine pa_ 0 (some 37) rfl rfl HT_ ?_; refine pa_ 1 (some 38) rfl rfl HT_ ?_; refine pa_ 2 (some 39) rfl rfl HT_ ?_; refine pa_ 3 (some 40) rfl rfl HT_ ?_; refine pa_ 4 (some 41) rfl rfl HT_ ?_; refine pa_ 5 (some 42) rfl rfl HT_ ?_; refine pa_ 6 (some 43) rfl rfl HT_ ?_; refine pa_ 7 (some 44) rfl rfl HT_ ?_; refine pa_ 8 (some 45) rfl rfl HT_ ?_; refine pa_ 10 (some 47) rfl rfl HT_ ?_; refine pa_ 11 (some 48) rfl rfl HT_ ?_; refine pa_ 12 (some 49) rfl rfl HT_ ?_; refine ta0_ 9 (some 46) rfl rfl HT_ HW_ hHeld ?_; refine ta0_ 13 (some 50) rfl rfl HT_ HW_ hHeld ?_; refine pa_ 14 (some 51) rfl rfl HT_ ?_; refine last_ (i := 15) (N := none) #[true, true, true, true, true, true, true, true, true, true, true, true, true, true, true, true, false, false] rfl rfl (one_of HT_.out (by kernel_rfl)) (by decide) (fun K hK => ?_)
            refine skip_ (w1 := ?_) (by rfl) rfl ?_ ?_
            rotate_left
            ·go_simp
             rfl
            refine hK.out _ _ ?_; clear hK K; refine pa_ 16 (some 52) rfl rfl HT_ ?_; refine last_ (i := 17) (N := none) #[true, true, true, true, true, true, true, true, true, true, true, true, true, true, true, true, true, true] rfl rfl (one_of HT_.out (by kernel_rfl)) (by decide) (fun K hK => ?_)
            refine skip_ (w1 := ?_) (by rfl) rfl ?_ ?_
            rotate_left
            ·go_simp
             rfl
            refine hK.out _ _ ?_; clear hK K; refine done_ (done_of HT_.out (by kernel_rfl)) ?_
            try go_wp2
            go_roundg k2
            case measure => have := HK1.out; have := HK2.out; omega
            case rel => exact ⟨(y418), (ji9), (by first | rfl | (simp; done) | (simp only [← hji9] <;> (first | rfl | simp)) | (simp [*]; done)), H', ⟨by have := HK1.out; have := HK2.out; omega⟩, ⟨kr_ HQ21.out⟩, ⟨by repeat (first | (with_reducible first | exact HK.out | apply Kept.alloc | apply Kept.drewN | apply Kept.drew | refine Kept.setCell ?_ HMgo14.out _ | refine Kept.setCell ?_ HMgo14.out _ | refine Kept.setCell ?_ HMgo14.out _ | refine Kept.setCell ?_ HMgo14.out _) | exact HK.out)⟩, ⟨by repeat (first | (with_reducible first | exact HB.out | apply below_alloc | apply pw_below_drewN | apply below_drew1 | refine below_set ?_ GB14.out | refine below_set ?_ GB14.out | refine below_set ?_ GB14.out | refine below_set ?_ GB14.out) | exact HB.out)⟩⟩
           ·rw [if_neg c13] at H
            have c13b0 : decide (t414 < 0) = false := decide_eq_false c13; clear c13; have H' := Aside0.mk H; clear H
            try go_wp2
            replace HO_0 := Aside0.mk (Kd.R_drew HO_0.out); replace HK := Aside0.mk (Kept.drew HK.out); replace HB := Aside0.mk (below_drew1 HB.out); obtain ⟨Ao23, co23, eo23⟩ := Kd.R_slice HO_0.out
            (first | subst eo23 | (injection eo23 with f1_ f2_ f3_; have f4_ := f1_.symm; have f5_ := f3_.symm; clear f1_ f2_ f3_; subst f4_; subst f5_))
            have p412 : 0 ≤ (x9_2 : Int) := of_decide_eq_true as_; have q412 : x9_2 < (x0_2.length : Int) := of_decide_eq_true as_; obtain ⟨ad412, e412, hx412_0, hx412_1⟩ := at_T80 (Kd.R_reads' HO_0.out).2.2 x9_2 p412 q412
            cases e412
            replace p412 := eq_true p412; replace q412 := eq_true q412; have p413 : 0 ≤ ((ji9) : Int) := of_decide_eq_true as_; have q413 : (ji9) < (x0_2.length : Int) := of_decide_eq_true as_; obtain ⟨ad413, e413, hx413_0, hx413_1⟩ := at_T80 (Kd.R_reads' HO_0.out).2.2 (ji9) p413 q413; obtain rfl : ad412 = ad413 := (by injection e413)
            replace p413 := eq_true p413; replace q413 := eq_true q413; refine start_ (n := 17) (S := fun w' => w'.cell? (ad412.add ((x9_2).toNat * 2)) = some (.int .i64 ((rd_T80 x0_2 x9_2).f0)) ∧ w'.cell? ⟨(ad412.add ((x9_2).toNat * 2)).block, (ad412.add ((x9_2).toNat * 2)).off + 1, none⟩ = some (.int .i64 ((rd_T80 x0_2 x9_2).f1)) ∧ w'.cell? (ad412.add (((ji9)).toNat * 2)) = some (.int .i64 ((rd_T80 x0_2 (ji9)).f0)) ∧ w'.cell? ⟨(ad412.add (((ji9)).toNat * 2)).block, (ad412.add (((ji9)).toNat * 2)).off + 1, none⟩ = some (.int .i64 ((rd_T80 x0_2 (ji9)).f1))) (ds := []) #[false, false, false, false, false, false, false, false, false, false, false, false, false, false, false, false, false] (by kernel_rfl) rfl rfl ⟨hx412_0, hx412_1, hx413_0, hx413_1⟩ (fun hHeld => ?_); refine with_tabW impl_Diagonal__at_impl_compareDiagonals_91.tab4 impl_Diagonal__at_impl_compareDiagonals_91.bits4 (fun HT_ HW_ => ?_)
            generalize wr.drew = w22 at HO_0 HK HB hx412_0 hx412_1 hx413_0 hx413_1 hHeld ⊢
            refine pa_ 0 (some 18) rfl rfl HT_ ?_; refine pa_ 1 (some 19) rfl rfl HT_ ?_; refine pa_ 2 (some 20) rfl rfl HT_ ?_; refine pa_ 3 (some 21) rfl rfl HT_ ?_; refine pa_ 4 (some 22) rfl rfl HT_ ?_; refine pa_ 5 (some 23) rfl rfl HT_ ?_; refine pa_ 6 (some 24) rfl rfl HT_ ?_; refine pa_ 7 (some 25) rfl rfl HT_ ?_; refine pa_ 9 (some 27) rfl rfl HT_ ?_; refine pa_ 10 (some 28) rfl rfl HT_ ?_; refine pa_ 11 (some 29) rfl rfl HT_ ?_; refine pa_ 12 (some 30) rfl rfl HT_ ?_; refine ta0_ 8 (some 26) rfl rfl HT_ HW_ hHeld ?_; refine ta0_ 13 (some 31) rfl rfl HT_ HW_ hHeld ?_; refine one_ (i := 14) (N := some 32) #[true, true, true, true, true, true, true, true, true, true, true, true, true, true, true, false, false] rfl rfl (one_of HT_.out (by kernel_rfl)) (by decide) (fun K hK => ?_)
            refine goesV_ (.tmp 22) (by rfl) Tryz.func78 (by kernel_rfl) rfl #[.agg #[.int .i64 ((rd_T80 x0_2 x9_2).f0), .int .i64 ((rd_T80 x0_2 x9_2).f1)], .agg #[.int .i64 ((rd_T80 x0_2 (ji9)).f0), .int .i64 ((rd_T80 x0_2 (ji9)).f1)]] (by rfl) rfl rfl (by (try simp only [List.map_toArray, List.map_cons, List.map_nil]); first | done | (simp only [hji9]; rfl) | rfl | (simp only [List.length_drop, List.length_take]; rfl)) ?_
            with_reducible refine (impl_compareDiagonals.calls k2 ((rd_T80 x0_2 x9_2).f0) ((rd_T80 x0_2 x9_2).f1) ((rd_T80 x0_2 (ji9)).f0) ((rd_T80 x0_2 (ji9)).f1) t414 _ A12.out).mono ?_
            rintro e w24 ⟨rfl, hb⟩
            have HS0_ := (hb.cell (World.block_lt_of_cell? _ _ (hHeld.1))).trans (hHeld.1); have HS1_ := (hb.cell (World.block_lt_of_cell? _ _ (hHeld.2.1))).trans (hHeld.2.1); have HS2_ := (hb.cell (World.block_lt_of_cell? _ _ (hHeld.2.2.1))).trans (hHeld.2.2.1); have HS3_ := (hb.cell (World.block_lt_of_cell? _ _ (hHeld.2.2.2))).trans (hHeld.2.2.2); refine ⟨_, rfl, ?_⟩; have n0_ := Aside0.mk (Kd.R_below (kr_ HO_0.out) hb); have n1_ := Aside0.mk (Kept.below (S := (fun k_ => P0_ k_)) (by repeat (first | (with_reducible first | exact HK.out | apply Kept.alloc | apply Kept.drewN | apply Kept.drew) | exact HK.out)) hb)
            have n2_ := Aside0.mk (below_step (bl_ HB.out) hb); clear HO_0; clear HK; clear HB; have HO_0 := n0_; have HK := n1_; have HB := n2_; clear n0_ n1_ n2_
            (try clear hb)
            (try clear hb2)
            (try clear hk)
            (try clear hi)
            refine hK.out _ _ ⟨HS0_, HS1_, HS2_, HS3_⟩ (fun hHeld => ?_)
            clear hK K; refine na_ (some 32) ?_; refine pa_ 15 (some 33) rfl rfl HT_ ?_; refine pa_ 16 (some 34) rfl rfl HT_ ?_; refine done_ (done_of HT_.out (by kernel_rfl)) ?_
            try go_wp2
            go_roundg k2
            case measure => have := HK1.out; have := HK2.out; omega
            case rel => exact ⟨(x0_2), (wrap64 (x8_1 + 1)), (fs_), H', ⟨by have := HK1.out; have := HK2.out; omega⟩, ⟨kr_ HO_0.out⟩, ⟨by repeat (first | (with_reducible first | exact HK.out | apply Kept.alloc | apply Kept.drewN | apply Kept.drew) | exact HK.out)⟩, ⟨bl_ HB.out⟩⟩
          ·rw [if_neg c11] at H
           exact absurd H (by simp)
         ·rw [if_neg c10] at H
          exact absurd H (by simp)
        ·rw [if_neg c8] at H
         exact absurd H (by simp)
       ·rw [if_neg c7] at H
        exact absurd H (by simp)
      ·rw [if_neg c6] at H
       have c6b0 : decide (a1 < x9_2) = false := decide_eq_false c6; clear c6; have H' := Aside0.mk H; clear H
       try go_wp2
       replace HO_0 := Aside0.mk (Kd.R_drew HO_0.out); replace HK := Aside0.mk (Kept.drew HK.out); replace HB := Aside0.mk (below_drew1 HB.out); refine start_ (n := 17) (S := fun w' => True) (ds := []) #[false, false, false, false, false, false, false, false, false, false, false, false, false, false, false, false, false] (by kernel_rfl) rfl rfl trivial (fun hHeld => ?_); refine with_tabW impl_Diagonal__at_impl_compareDiagonals_91.tab4 impl_Diagonal__at_impl_compareDiagonals_91.bits4 (fun HT_ HW_ => ?_)
       generalize wr.drew = w25 at HO_0 HK HB hHeld ⊢
       refine pa_ 0 (some 18) rfl rfl HT_ ?_; refine pa_ 1 (some 19) rfl rfl HT_ ?_; refine pa_ 2 (some 20) rfl rfl HT_ ?_; refine pa_ 3 (some 21) rfl rfl HT_ ?_; refine pb_ 4 (some 22) rfl rfl HT_ ?_; refine pb_ 5 (some 23) rfl rfl HT_ ?_; refine pb_ 6 (some 24) rfl rfl HT_ ?_; refine pb_ 7 (some 25) rfl rfl HT_ ?_; refine pb_ 8 (some 26) rfl rfl HT_ ?_; refine pb_ 9 (some 27) rfl rfl HT_ ?_; refine pb_ 10 (some 28) rfl rfl HT_ ?_; refine pb_ 11 (some 29) rfl rfl HT_ ?_; refine pb_ 12 (some 30) rfl rfl HT_ ?_; refine pb_ 13 (some 31) rfl rfl HT_ ?_; refine pb_ 14 (some 32) rfl rfl HT_ ?_; refine pb_ 15 (some 33) rfl rfl HT_ ?_; refine pa_ 16 (some 34) rfl rfl HT_ ?_; refine done_ (done_of HT_.out (by kernel_rfl)) ?_
       try go_wp2
       go_roundg k2
       case measure => have := HK1.out; have := HK2.out; omega
       case rel => exact ⟨(x0_2), (wrap64 (x8_1 + 1)), (fs_), H', ⟨by have := HK1.out; have := HK2.out; omega⟩, ⟨kr_ HO_0.out⟩, ⟨by repeat (first | (with_reducible first | exact HK.out | apply Kept.alloc | apply Kept.drewN | apply Kept.drew) | exact HK.out)⟩, ⟨bl_ HB.out⟩⟩
   ·rw [if_neg c5] at H
    have c5b0 : decide (x8_1 < a2) = false := decide_eq_false c5; clear c5; obtain rfl := Option.some.inj H
    go_wp2
    first | go_end0 | ((try simp only [Exit.inBlock, Exit.then]); refine bodyPost_ret (results_none rfl _ _ _) rfl ?_)
    exact ⟨by first | rfl | (simp [errW_none, errW_some] <;> rfl) | (simp [*, errW_none, errW_some] <;> rfl), by (with_reducible repeat (first | apply Kd.R_alloc | apply Kd.R_drewN | apply Kd.R_drew)); exact HO_0.out, bl_ HB.out, by repeat (first | (with_reducible first | exact HK.out | apply Kept.alloc | apply Kept.drewN | apply Kept.drew) | exact HK.out)⟩
end Go.Proofs.YtcfcnnnkpdhecaaGreat.PFnContinuantsSplit
