-- Written for this claim by a program of this session (wip/tools/xprint.py over the kit's printer, wip/tools/shrink.py).
import Derived.Test.YtobddjeefcoikaaGreatPFnQuidditiesTellx0
import Derived.Test.YtobddjeefcoikaaGreatPFnQuidditiesTellx14
namespace Go.Proofs.YtobddjeefcoikaaGreat.PFnQuidditiesTell
open Go.RowKit Go.Proofs.YtobddjeefcoikaaGreatW.PrintWords Go.Proofs.YtobddjeefcoikaaGreatW.PrintLast Go.Proofs.YtobddjeefcoikaaGreatW.PrintMore
attribute [local go_sem] max2_int min2_int max_two min_two max_three min_three max_four min_four   -- for this text's walks alone
set_option linter.unusedVariables false
set_option linter.unusedSimpArgs false
mutual
def impl_Diagonal__at_impl_compareDiagonals_94.l0 : Nat → List (S46) → Int → Int → Int → Option ((List (S46)))
 | 0, _, _, _, _ => none
 | k + 1, x0, x1, x2, x8 => if x8 < x2 then (impl_Diagonal__at_impl_compareDiagonals_94.l1 k x0 x1 x2 x8 x8) else (some x0)
def impl_Diagonal__at_impl_compareDiagonals_94.l1 : Nat → List (S46) → Int → Int → Int → Int → Option ((List (S46)))
 | 0, _, _, _, _, _ => none
 | k + 1, x0, x1, x2, x8, x9 => if x9 > x1 then (if 0 ≤ x9 then (if x9 < (x0.length : Int) then (if 0 ≤ (wrap64 (x9 - 1)) then (if (wrap64 (x9 - 1)) < (x0.length : Int) then ((impl_compareDiagonals.f k ((rd_T46 x0 x9).f0) ((rd_T46 x0 x9).f1) ((rd_T46 x0 (wrap64 (x9 - 1))).f0) ((rd_T46 x0 (wrap64 (x9 - 1))).f1)).bind fun t488 => (if t488 < 0 then (impl_Diagonal__at_impl_compareDiagonals_94.l1 k ((x0.set (x9 : Int).toNat (⟨(rd_T46 x0 (wrap64 (x9 - 1))).f0, (rd_T46 x0 (wrap64 (x9 - 1))).f1⟩ : S46)).set ((wrap64 (x9 - 1)) : Int).toNat (⟨(rd_T46 x0 x9).f0, (rd_T46 x0 x9).f1⟩ : S46)) x1 x2 x8 (wrap64 (x9 - 1))) else (impl_Diagonal__at_impl_compareDiagonals_94.l0 k x0 x1 x2 (wrap64 (x8 + 1))))) else (none)) else (none)) else (none)) else (none)) else (impl_Diagonal__at_impl_compareDiagonals_94.l0 k x0 x1 x2 (wrap64 (x8 + 1)))
end
def impl_Diagonal__at_impl_compareDiagonals_94.f (k : Nat) (l0 : List (S46)) (a1 : Int) (a2 : Int)  : Option ((List (S46))) := impl_Diagonal__at_impl_compareDiagonals_94.l0 k l0 a1 a2 (wrap64 (a1 + 1))
def impl_Diagonal__at_impl_compareDiagonals_94.T4 : Bool × List (List Nat × List Nat) := (true, [([], []), ([], []), ([0, 1], [0, 1]), ([2], [2]), ([3], [3]), ([3], [3]), ([3], [3]), ([5, 6, 3], [3, 5, 6]), ([7, 3], [3, 7]), ([3], [3]), ([3], [3]), ([10, 3], [3, 10]), ([9, 11, 3], [3, 9, 11]), ([12, 3], [3, 12]), ([4, 8, 13, 3, 3], [3, 4, 8, 13]), ([14, 3], [3, 14]), ([3, 15], [3, 15])])
def impl_Diagonal__at_impl_compareDiagonals_94.B4 : List Nat := [0, 0, 3, 7, 15, 15, 15, 111, 239, 15, 15, 1039, 3599, 7695, 16383, 32767, 65535]
theorem impl_Diagonal__at_impl_compareDiagonals_94.tab4 : rtab .any (opsOf Tryz.f94 4) = impl_Diagonal__at_impl_compareDiagonals_94.T4 := by kernel_rfl
theorem impl_Diagonal__at_impl_compareDiagonals_94.bits4 : waitsOk impl_Diagonal__at_impl_compareDiagonals_94.T4.2 impl_Diagonal__at_impl_compareDiagonals_94.B4 = true := by kernel_rfl
def impl_Diagonal__at_impl_compareDiagonals_94.T6 : Bool × List (List Nat × List Nat) := (true, [([], []), ([], []), ([], []), ([], []), ([3], [3]), ([], []), ([], []), ([6], [6]), ([5, 7], [5, 7]), ([8], [8]), ([], []), ([], []), ([10, 11], [10, 11]), ([12], [12]), ([0, 1, 0, 1, 5, 6, 7, 8, 9, 13], [0, 1]), ([14, 9, 0, 1, 5, 6, 7, 8, 9, 13], [9, 14]), ([2, 4, 0, 1, 2, 3, 4, 5, 6, 7, 8, 9, 10, 11, 12, 13, 14, 15], [2, 4]), ([16, 13, 15, 0, 1, 2, 3, 4, 5, 6, 7, 8, 9, 10, 11, 12, 13, 14, 15], [13, 16])])
def impl_Diagonal__at_impl_compareDiagonals_94.B6 : List Nat := [0, 0, 0, 0, 8, 0, 0, 64, 224, 480, 0, 0, 3072, 7168, 16355, 32739, 65535, 131071]
theorem impl_Diagonal__at_impl_compareDiagonals_94.tab6 : rtab .any (opsOf Tryz.f94 6) = impl_Diagonal__at_impl_compareDiagonals_94.T6 := by kernel_rfl
theorem impl_Diagonal__at_impl_compareDiagonals_94.bits6 : waitsOk impl_Diagonal__at_impl_compareDiagonals_94.T6.2 impl_Diagonal__at_impl_compareDiagonals_94.B6 = true := by kernel_rfl
set_option maxHeartbeats 8000000 in
set_option maxRecDepth 100000 in
theorem impl_Diagonal__at_impl_compareDiagonals_94.calls (k : Nat) (P0_ : Nat → Prop) (u9000_ : Value) (l0 : List (S46)) (a1 : Int) (a2 : Int)  (r : List (S46)) (w0 w : World) (hB : Below w0.heap.size w0 w) (ho0 : Kd.R k46 46 w w0.heap.size P0_ u9000_ l0) (h : impl_Diagonal__at_impl_compareDiagonals_94.f k l0 a1 a2 = some r) :
  Calls Tryz.prog 94 #[u9000_, .int .i64 a1, .int .i64 a2, .func (.func 48) #[] #[]] w fun e w' => e = .returned (.tuple #[]) ∧ Kd.R k46 46 w' w0.heap.size (fun k_ => (P0_ k_ ∨ w.heap.size ≤ k_)) u9000_ r ∧ Below w0.heap.size w0 w' ∧ Kept w w' (fun k_ => P0_ k_) := by
 have hu46 := Tryz.underlying46; have HO0 := Aside0.mk (show Kd.R k46 46 w w0.heap.size (fun k_ => (P0_ k_ ∨ w.heap.size ≤ k_)) u9000_ l0 from Kd.R_mono ho0 (fun k_ hk => (.inl hk)))
 have HK := Aside0.mk (Kept.refl w (fun k_ => P0_ k_))
 have HW0 := Aside0.mk hB.size; have HB := Aside0.mk hB; clear hB; have H : (impl_Diagonal__at_impl_compareDiagonals_94.l0 k l0 a1 a2 (wrap64 (a1 + 1))) = some r := h; clear h; have H' := Aside0.mk H; clear H
 go_enter Tryz.func94, Tryz.ntmps94
 go_wp2
 go_loopg [8] k (fun kq v8 w' => ∃ (x0_1 : List (S46)) (x8_1 : Int), v8 = .int .i64 x8_1 ∧ Aside0 (impl_Diagonal__at_impl_compareDiagonals_94.l0 kq x0_1 a1 a2 x8_1 = some r) ∧ Aside0 (kq ≤ k) ∧ Aside0 (Kd.R k46 46 w' w0.heap.size (fun k_ => (P0_ k_ ∨ w.heap.size ≤ k_)) u9000_ x0_1) ∧ Aside0 (Kept w w' (fun k_ => P0_ k_)) ∧ Aside0 (Below w0.heap.size w0 w'))
 case atStart => exact ⟨(l0), (wrap64 (a1 + 1)), (fs_), H', ⟨Nat.le_refl _⟩, ⟨kr_ HO0.out⟩, ⟨by repeat (first | (with_reducible first | exact HK.out | apply Kept.alloc | apply Kept.drewN | apply Kept.drew) | exact HK.out)⟩, ⟨bl_ HB.out⟩⟩
 case round =>
  clear H'
  try clear p2
  obtain ⟨x0_1, x8_1, rfl, HA, HK1, HO_0, HK, HB⟩ := hrel
  cases gk with
  | zero => exact absurd HA.out (by simp [impl_Diagonal__at_impl_compareDiagonals_94.l0])
  | succ k1 =>
   have H := HA.out; clear HA
   simp only [impl_Diagonal__at_impl_compareDiagonals_94.l0] at H
   by_cases c5 : x8_1 < a2
   ·rw [if_pos c5] at H
    have c5b0 : decide (x8_1 < a2) = true := decide_eq_true c5; clear c5; have H' := Aside0.mk H; clear H
    go_wp2
    go_loopg [9] k1 (fun kq v9 w' => ∃ (x0_2 : List (S46)) (x9_2 : Int), v9 = .int .i64 x9_2 ∧ Aside0 (impl_Diagonal__at_impl_compareDiagonals_94.l1 kq x0_2 a1 a2 x8_1 x9_2 = some r) ∧ Aside0 (kq ≤ k1) ∧ Aside0 (Kd.R k46 46 w' w0.heap.size (fun k_ => (P0_ k_ ∨ w.heap.size ≤ k_)) u9000_ x0_2) ∧ Aside0 (Kept w w' (fun k_ => P0_ k_)) ∧ Aside0 (Below w0.heap.size w0 w'))
    case atStart => exact ⟨(x0_1), (x8_1), (fs_), H', ⟨Nat.le_refl _⟩, ⟨kr_ HO_0.out⟩, ⟨by repeat (first | (with_reducible first | exact HK.out | apply Kept.alloc | apply Kept.drewN | apply Kept.drew) | exact HK.out)⟩, ⟨bl_ HB.out⟩⟩
    case round =>
     clear H'
     try clear p2
     try clear c5
     try clear c5b0
     try clear p2
     obtain ⟨x0_2, x9_2, rfl, HA, HK2, HO_0, HK, HB⟩ := hrel
     cases gk with
     | zero => exact absurd HA.out (by simp [impl_Diagonal__at_impl_compareDiagonals_94.l1])
     | succ k2 =>
      have H := HA.out; clear HA
      simp only [impl_Diagonal__at_impl_compareDiagonals_94.l1] at H
      by_cases c6 : x9_2 > a1
      ·rw [if_pos c6] at H
       have c6b0 : decide (a1 < x9_2) = true := decide_eq_true c6; clear c6
       by_cases c7 : 0 ≤ x9_2
       ·rw [if_pos c7] at H
        have c7b0 : decide (0 ≤ x9_2) = true := decide_eq_true c7; clear c7
        by_cases c8 : x9_2 < (x0_2.length : Int)
        ·rw [if_pos c8] at H
         have c8b0 : decide (x9_2 < (x0_2.length : Int)) = true := decide_eq_true c8; clear c8; obtain ⟨ji9, hji9⟩ : ∃ j_ : Int, (wrap64 (x9_2 - 1)) = j_ := ⟨_, rfl⟩; replace H : (if 0 ≤ (ji9) then (if (ji9) < (x0_2.length : Int) then ((impl_compareDiagonals.f k2 ((rd_T46 x0_2 x9_2).f0) ((rd_T46 x0_2 x9_2).f1) ((rd_T46 x0_2 (ji9)).f0) ((rd_T46 x0_2 (ji9)).f1)).bind fun t488 => (if t488 < 0 then (impl_Diagonal__at_impl_compareDiagonals_94.l1 k2 ((x0_2.set (x9_2 : Int).toNat (⟨(rd_T46 x0_2 (ji9)).f0, (rd_T46 x0_2 (ji9)).f1⟩ : S46)).set ((ji9) : Int).toNat (⟨(rd_T46 x0_2 x9_2).f0, (rd_T46 x0_2 x9_2).f1⟩ : S46)) a1 a2 x8_1 ji9) else (impl_Diagonal__at_impl_compareDiagonals_94.l0 k2 x0_2 a1 a2 (wrap64 (x8_1 + 1))))) else (none)) else (none)) = some r := by first | (rw [hji9] at H; exact H) | (simp only [hji9] at H ⊢; exact H)
         have hji9w : (IntKind.i64.wrap (x9_2 - 1)) = ji9 := (i64_w _).trans hji9
         by_cases c10 : 0 ≤ (ji9)
         ·rw [if_pos c10] at H
          have c10b0 : decide (0 ≤ (ji9)) = true := decide_eq_true c10; clear c10
          by_cases c11 : (ji9) < (x0_2.length : Int)
          ·rw [if_pos c11] at H
           have c11b0 : decide ((ji9) < (x0_2.length : Int)) = true := decide_eq_true c11; clear c11; replace H := Option.bind_eq_some_iff.mp H; obtain ⟨t488, A120, H⟩ := H; have A12 := Aside0.mk A120; clear A120
           by_cases c13 : t488 < 0
           ·rw [if_pos c13] at H
            have c13b0 : decide (t488 < 0) = true := decide_eq_true c13; clear c13; obtain ⟨y491, hy491⟩ : ∃ y_ : List (S46), y_ = (x0_2.set (x9_2 : Int).toNat (⟨(rd_T46 x0_2 (ji9)).f0, (rd_T46 x0_2 (ji9)).f1⟩ : S46)) := ⟨_, rfl⟩; replace H : (impl_Diagonal__at_impl_compareDiagonals_94.l1 k2 (y491.set ((ji9) : Int).toNat (⟨(rd_T46 x0_2 x9_2).f0, (rd_T46 x0_2 x9_2).f1⟩ : S46)) a1 a2 x8_1 ji9) = some r := rh_ hy491 H; have Ny491 := Aside0.mk hy491; clear hy491; obtain ⟨y492, hy492⟩ : ∃ y_ : List (S46), y_ = (y491.set ((ji9) : Int).toNat (⟨(rd_T46 x0_2 x9_2).f0, (rd_T46 x0_2 x9_2).f1⟩ : S46)) := ⟨_, rfl⟩; replace H : (impl_Diagonal__at_impl_compareDiagonals_94.l1 k2 y492 a1 a2 x8_1 ji9) = some r := rh_ hy492 H; have Ny492 := Aside0.mk hy492; clear hy492; have H' := Aside0.mk H; clear H
            try go_wp2
            replace HO_0 := Aside0.mk (Kd.R_drew HO_0.out); replace HK := Aside0.mk (Kept.drew HK.out); replace HB := Aside0.mk (below_drew1 HB.out); obtain ⟨Ao17, co17, eo17⟩ := Kd.R_slice HO_0.out
            (first | subst eo17 | (injection eo17 with f1_ f2_ f3_; have f4_ := f1_.symm; have f5_ := f3_.symm; clear f1_ f2_ f3_; subst f4_; subst f5_))
            have p486 : 0 ≤ (x9_2 : Int) := of_decide_eq_true as_; have q486 : x9_2 < (x0_2.length : Int) := of_decide_eq_true as_; obtain ⟨ad486, e486, hx486_0, hx486_1⟩ := at_T46 (Kd.R_reads' HO_0.out).2.2 x9_2 p486 q486
            cases e486
            replace p486 := eq_true p486; replace q486 := eq_true q486; have p487 : 0 ≤ ((ji9) : Int) := of_decide_eq_true as_; have q487 : (ji9) < (x0_2.length : Int) := of_decide_eq_true as_; obtain ⟨ad487, e487, hx487_0, hx487_1⟩ := at_T46 (Kd.R_reads' HO_0.out).2.2 (ji9) p487 q487; obtain rfl : ad486 = ad487 := (by injection e487)
            replace p487 := eq_true p487; replace q487 := eq_true q487; refine start_ (n := 17) (S := fun w' => w'.cell? (ad486.add ((x9_2).toNat * 2)) = some (.int .i64 ((rd_T46 x0_2 x9_2).f0)) ∧ w'.cell? ⟨(ad486.add ((x9_2).toNat * 2)).block, (ad486.add ((x9_2).toNat * 2)).off + 1, none⟩ = some (.int .i64 ((rd_T46 x0_2 x9_2).f1)) ∧ w'.cell? (ad486.add (((ji9)).toNat * 2)) = some (.int .i64 ((rd_T46 x0_2 (ji9)).f0)) ∧ w'.cell? ⟨(ad486.add (((ji9)).toNat * 2)).block, (ad486.add (((ji9)).toNat * 2)).off + 1, none⟩ = some (.int .i64 ((rd_T46 x0_2 (ji9)).f1))) (ds := []) #[false, false, false, false, false, false, false, false, false, false, false, false, false, false, false, false, false] (by kernel_rfl) rfl rfl ⟨hx486_0, hx486_1, hx487_0, hx487_1⟩ (fun hHeld => ?_); refine with_tabW impl_Diagonal__at_impl_compareDiagonals_94.tab4 impl_Diagonal__at_impl_compareDiagonals_94.bits4 (fun HT_ HW_ => ?_)
            generalize wr.drew = w16 at HO_0 HK HB hx486_0 hx486_1 hx487_0 hx487_1 hHeld ⊢
            refine pa_ 0 (some 18) rfl rfl HT_ ?_; refine pa_ 1 (some 19) rfl rfl HT_ ?_; refine pa_ 2 (some 20) rfl rfl HT_ ?_; refine pa_ 3 (some 21) rfl rfl HT_ ?_; refine pa_ 4 (some 22) rfl rfl HT_ ?_; refine pa_ 5 (some 23) rfl rfl HT_ ?_; refine pa_ 6 (some 24) rfl rfl HT_ ?_; refine pa_ 7 (some 25) rfl rfl HT_ ?_; refine pa_ 9 (some 27) rfl rfl HT_ ?_; refine pa_ 10 (some 28) rfl rfl HT_ ?_; refine pa_ 11 (some 29) rfl rfl HT_ ?_; refine pa_ 12 (some 30) rfl rfl HT_ ?_; refine ta0_ 8 (some 26) rfl rfl HT_ HW_ hHeld ?_; refine ta0_ 13 (some 31) rfl rfl HT_ HW_ hHeld ?_; refine one_ (i := 14) (N := some 32) #[true, true, true, true, true, true, true, true, true, true, true, true, true, true, true, false, false] rfl rfl (one_of HT_.out (by kernel_rfl)) (by decide) (fun K hK => ?_)
            refine goesV_ (.tmp 22) (by rfl) Tryz.func48 (by kernel_rfl) rfl #[.agg #[.int .i64 ((rd_T46 x0_2 x9_2).f0), .int .i64 ((rd_T46 x0_2 x9_2).f1)], .agg #[.int .i64 ((rd_T46 x0_2 (ji9)).f0), .int .i64 ((rd_T46 x0_2 (ji9)).f1)]] (by rfl) rfl rfl (by (try simp only [List.map_toArray, List.map_cons, List.map_nil]); first | done | (simp only [hji9]; rfl) | rfl | (simp only [List.length_drop, List.length_take]; rfl)) ?_
            with_reducible refine (impl_compareDiagonals.calls k2 ((rd_T46 x0_2 x9_2).f0) ((rd_T46 x0_2 x9_2).f1) ((rd_T46 x0_2 (ji9)).f0) ((rd_T46 x0_2 (ji9)).f1) t488 _ A12.out).mono ?_
            rintro e w18 ⟨rfl, hb⟩
            have HS0_ := (hb.cell (World.block_lt_of_cell? _ _ (hHeld.1))).trans (hHeld.1); have HS1_ := (hb.cell (World.block_lt_of_cell? _ _ (hHeld.2.1))).trans (hHeld.2.1); have HS2_ := (hb.cell (World.block_lt_of_cell? _ _ (hHeld.2.2.1))).trans (hHeld.2.2.1); have HS3_ := (hb.cell (World.block_lt_of_cell? _ _ (hHeld.2.2.2))).trans (hHeld.2.2.2); refine ⟨_, rfl, ?_⟩; have n0_ := Aside0.mk (Kd.R_below (kr_ HO_0.out) hb); have n1_ := Aside0.mk (Kept.below (S := (fun k_ => P0_ k_)) (by repeat (first | (with_reducible first | exact HK.out | apply Kept.alloc | apply Kept.drewN | apply Kept.drew) | exact HK.out)) hb)
            have n2_ := Aside0.mk (below_step (bl_ HB.out) hb); clear HO_0; clear HK; clear HB; have HO_0 := n0_; have HK := n1_; have HB := n2_; clear n0_ n1_ n2_
            (try clear hb)
            (try clear hb2)
            (try clear hk)
            (try clear hi)
            refine hK.out _ _ ⟨HS0_, HS1_, HS2_, HS3_⟩ (fun hHeld => ?_)
            clear hK K; refine na_ (some 32) ?_; refine pa_ 15 (some 33) rfl rfl HT_ ?_; refine pa_ 16 (some 34) rfl rfl HT_ ?_; refine done_ (done_of HT_.out (by kernel_rfl)) ?_
            try go_wp2
            replace HO_0 := Aside0.mk (Kd.R_drew HO_0.out); replace HK := Aside0.mk (Kept.drew HK.out); replace HB := Aside0.mk (below_drew1 HB.out); have p489 : 0 ≤ ((ji9) : Int) := of_decide_eq_true as_; have q489 : (ji9) < (x0_2.length : Int) := of_decide_eq_true as_; obtain ⟨ad489, e489, hx489_0, hx489_1⟩ := at_T46 (Kd.R_reads' HO_0.out).2.2 (ji9) p489 q489; obtain rfl : ad486 = ad489 := (by injection e489)
            replace p489 := eq_true p489; replace q489 := eq_true q489; have p490 : 0 ≤ (x9_2 : Int) := of_decide_eq_true as_; have q490 : x9_2 < (x0_2.length : Int) := of_decide_eq_true as_; obtain ⟨ad490, e490, hx490_0, hx490_1⟩ := at_T46 (Kd.R_reads' HO_0.out).2.2 x9_2 p490 q490; obtain rfl : ad486 = ad490 := (by injection e490)
            replace p490 := eq_true p490; replace q490 := eq_true q490; have p14 : 0 ≤ (x9_2 : Int) := of_decide_eq_true as_; have q14 : (x9_2 : Int) < ((x0_2.length : Int) : Int) := of_decide_eq_true as_; obtain ⟨go14, co14, eo14, gb14, gl14, cl14, HG14⟩ := Kd.R_form HO_0.out (by omega)
            (first | cases eo14 | (injection eo14 with ea_ en_ ec_; (first | subst ea_ | (injection ea_ with ea_; subst ea_)); subst ec_; clear en_))
            have GB14 := Aside0.mk gb14; have GG14 := Aside0.mk HG14; clear gb14 gl14 HG14; have HMgo14 := Aside0.mk (show (P0_ go14 ∨ w.heap.size ≤ go14) from (HO_0.out.1 _ rfl))
            (first | simp only [add_plain] at hx486_0 | skip)
            (first | simp only [add_plain] at hx486_1 | skip)
            (first | simp only [add_plain] at hx487_0 | skip)
            (first | simp only [add_plain] at hx487_1 | skip)
            (first | simp only [add_plain] at hx489_0 | skip)
            (first | simp only [add_plain] at hx489_1 | skip)
            (first | simp only [add_plain] at hx490_0 | skip)
            (first | simp only [add_plain] at hx490_1 | skip)
            obtain ⟨ce14, hcl14, hM14, hcc14, hfr14⟩ := Kd.R_elem HO_0.out z46 (x9_2 : Int) p14 q14; obtain rfl := k46_openM hM14; have hx14_0 : World.cell? _ ⟨go14, (x9_2 : Int).toNat * 2, none⟩ = some (.int .i64 ((rd_T46 x0_2 x9_2).f0)) := hcc14 0 _ rfl; have hx14_1 : World.cell? _ ⟨go14, (x9_2 : Int).toNat * 2 + 1, none⟩ = some (.int .i64 ((rd_T46 x0_2 x9_2).f1)) := hcc14 1 _ rfl; have hf14_0 : World.frozen? _ ⟨go14, (x9_2 : Int).toNat * 2, none⟩ = false := hfr14 0; have hf14_1 : World.frozen? _ ⟨go14, (x9_2 : Int).toNat * 2 + 1, none⟩ = false := hfr14 1; clear hcl14 hcc14 hfr14; (try clear hM14)
            replace p14 := eq_true p14; replace q14 := eq_true q14; obtain ⟨ce20, hcl20, hM20, hcc20, hfr20⟩ := Kd.R_elem HO_0.out z46 (x9_2 : Int) (of_decide_eq_true as_) (by have h_ : (x9_2 : Int) < ((x0_2.length : Int) : Int) := of_decide_eq_true as_; first | exact h_ | (have e_ := (Kd.R_reads' HO_0.out).1; omega) | simpa using h_)
            obtain rfl := k46_openM hM20; have HP20 := (Kd.R_seg HO_0.out (x9_2 : Int) (of_decide_eq_true as_) (by have h_ : (x9_2 : Int) < ((x0_2.length : Int) : Int) := of_decide_eq_true as_; first | exact h_ | (have e_ := (Kd.R_reads' HO_0.out).1; omega) | simpa using h_) (seg := [.int .i64 ((rd_T46 x0_2 (ji9)).f0), .int .i64 ((rd_T46 x0_2 (ji9)).f1)]) (j := 0) hcl20 hcc20 (show 2 ≤ 2 from by decide) (x' := (⟨(rd_T46 x0_2 (ji9)).f0, (rd_T46 x0_2 (ji9)).f1⟩ : S46)) (k46_mkM _ _ _ (⟨(rd_T46 x0_2 (ji9)).f0, (rd_T46 x0_2 (ji9)).f1⟩ : S46) ) (fun _ hk => hk)).1
            rw [← Ny491.out] at HP20
            have HQ20 := Aside0.mk HP20; clear hcl20 hcc20 hfr20 HP20; (try clear hM20)
            have p15 : 0 ≤ ((ji9) : Int) := of_decide_eq_true as_; have q15 : ((ji9) : Int) < ((x0_2.length : Int) : Int) := of_decide_eq_true as_; obtain ⟨ce15, hcl15, hM15, hcc15, hfr15⟩ := Kd.R_elem HQ20.out z46 ((ji9) : Int) p15 q15; obtain rfl := k46_openM hM15; have hx15_0 : World.cell? _ ⟨go14, ((ji9) : Int).toNat * 2, none⟩ = some (.int .i64 ((rd_T46 y491 (ji9)).f0)) := hcc15 0 _ rfl; have hx15_1 : World.cell? _ ⟨go14, ((ji9) : Int).toNat * 2 + 1, none⟩ = some (.int .i64 ((rd_T46 y491 (ji9)).f1)) := hcc15 1 _ rfl; have hf15_0 : World.frozen? _ ⟨go14, ((ji9) : Int).toNat * 2, none⟩ = false := hfr15 0; have hf15_1 : World.frozen? _ ⟨go14, ((ji9) : Int).toNat * 2 + 1, none⟩ = false := hfr15 1; clear hcl15 hcc15 hfr15; (try clear hM15)
            replace p15 := eq_true p15; replace q15 := eq_true q15; obtain ⟨ce21, hcl21, hM21, hcc21, hfr21⟩ := Kd.R_elem HQ20.out z46 ((ji9) : Int) (of_decide_eq_true as_) (by have h_ : ((ji9) : Int) < ((x0_2.length : Int) : Int) := of_decide_eq_true as_; first | exact h_ | (have e_ := (Kd.R_reads' HO_0.out).1; omega) | simpa using h_)
            obtain rfl := k46_openM hM21; have HP21 := (Kd.R_seg HQ20.out ((ji9) : Int) (of_decide_eq_true as_) (by have h_ : ((ji9) : Int) < ((x0_2.length : Int) : Int) := of_decide_eq_true as_; first | exact h_ | (have e_ := (Kd.R_reads' HO_0.out).1; omega) | simpa using h_) (seg := [.int .i64 ((rd_T46 x0_2 x9_2).f0), .int .i64 ((rd_T46 x0_2 x9_2).f1)]) (j := 0) hcl21 hcc21 (show 2 ≤ 2 from by decide) (x' := (⟨(rd_T46 x0_2 x9_2).f0, (rd_T46 x0_2 x9_2).f1⟩ : S46)) (k46_mkM _ _ _ (⟨(rd_T46 x0_2 x9_2).f0, (rd_T46 x0_2 x9_2).f1⟩ : S46) ) (fun _ hk => hk)).1
            rw [← Ny492.out] at HP21
            have HQ21 := Aside0.mk HP21; clear hcl21 hcc21 hfr21 HP21; (try clear hM21)
            have hnj1_ : ¬ (x9_2.toNat = ji9.toNat) := by have h1_ := hji9; have h2_ : 0 ≤ ji9 := of_decide_eq_true (by assumption); have h3_ : 0 ≤ x9_2 := of_decide_eq_true (by assumption); unfold wrap64 at h1_; omega
            have hnj2_ : ¬ (ji9.toNat = x9_2.toNat) := fun h_ => hnj1_ h_.symm
            refine start_ (n := 18) (S := fun w' => w'.cell? ⟨go14, (((ji9)).toNat * 2), none⟩ = some (.int .i64 ((rd_T46 x0_2 (ji9)).f0)) ∧ w'.cell? ⟨go14, (((ji9)).toNat * 2) + 1, none⟩ = some (.int .i64 ((rd_T46 x0_2 (ji9)).f1)) ∧ w'.cell? ⟨go14, ((x9_2).toNat * 2), none⟩ = some (.int .i64 ((rd_T46 x0_2 x9_2).f0)) ∧ w'.cell? ⟨go14, ((x9_2).toNat * 2) + 1, none⟩ = some (.int .i64 ((rd_T46 x0_2 x9_2).f1))) (ds := [15, 17]) #[false, false, false, false, false, false, false, false, false, false, false, false, false, false, false, false, false, false] (by kernel_rfl) rfl rfl ⟨hx489_0, hx489_1, hx490_0, hx490_1⟩ (fun hHeld => ?_); refine with_tabW impl_Diagonal__at_impl_compareDiagonals_94.tab6 impl_Diagonal__at_impl_compareDiagonals_94.bits6 (fun HT_ HW_ => ?_)
            generalize w18.drew = w19 at HO_0 HK HB GG14 HQ20 HQ21 hf14_0 hf14_1 hf15_0 hf15_1 hx14_0 hx14_1 hx15_0 hx15_1 hx486_0 hx486_1 hx487_0 hx487_1 hx489_0 hx489_1 hx490_0 hx490_1 hHeld ⊢
            obtain ⟨cez_, hz1_, hz2_, hz3_, hfrz_⟩ := Kd.R_elem HO_0.out z46 (ji9) (of_decide_eq_true (by assumption)) (of_decide_eq_true (by assumption))
            have hfz0_ : World.frozen? _ ⟨go14, (ji9 : Int).toNat * 2, none⟩ = false := hfrz_ 0; have hfz1_ : World.frozen? _ ⟨go14, (ji9 : Int).toNat * 2 + 1, none⟩ = false := hfrz_ 1; clear hz1_ hz2_ hz3_ hfrz_; refine pa_ 0 (some 37) rfl rfl HT_ ?_; refine pa_ 1 (some 38) rfl rfl HT_ ?_; refine pa_ 2 (some 39) rfl rfl HT_ ?_; refine pa_ 3 (some 40) rfl rfl HT_ ?_; refine pa_ 4 (some 41) rfl rfl HT_ ?_; refine pa_ 5 (some 42) rfl rfl HT_ ?_; refine pa_ 6 (some 43) rfl rfl HT_ ?_; refine pa_ 7 (some 44) rfl rfl HT_ ?_; refine pa_ 8 (some 45) rfl rfl HT_ ?_; refine pa_ 10 (some 47) rfl rfl HT_ ?_; refine pa_ 11 (some 48) rfl rfl HT_ ?_; refine pa_ 12 (some 49) rfl rfl HT_ ?_; refine ta0_ 9 (some 46) rfl rfl HT_ HW_ hHeld ?_; refine ta0_ 13 (some 50) rfl rfl HT_ HW_ hHeld ?_; refine pa_ 14 (some 51) rfl rfl HT_ ?_; refine last_ (i := 15) (N := none) #[true, true, true, true, true, true, true, true, true, true, true, true, true, true, true, true, false, false] rfl rfl (one_of HT_.out (by kernel_rfl)) (by decide) (fun K hK => ?_)
            refine skip_ (w1 := ?_) (by rfl) rfl ?_ ?_
            rotate_left
            ·go_simp
             rfl
            refine hK.out _ _ ?_; clear hK K; refine pa_ 16 (some 52) rfl rfl HT_ ?_; refine last_ (i := 17) (N := none) #[true, true, true, true, true, true, true, true, true, true, true, true, true, true, true, true, true, true] rfl rfl (one_of HT_.out (by kernel_rfl)) (by decide) (fun K hK => ?_)
            refine skip_ (w1 := ?_) (by rfl) rfl ?_ ?_
            rotate_left
            ·go_simp
             rfl
            refine hK.out _ _ ?_; clear hK K; refine done_ (done_of HT_.out (by kernel_rfl)) ?_
            try go_wp2
            go_roundg k2
            case measure => have := HK1.out; have := HK2.out; omega
            case rel => exact ⟨(y492), (ji9), (by first | rfl | (simp; done) | (simp only [← hji9] <;> (first | rfl | simp)) | (simp [*]; done)), H', ⟨by have := HK1.out; have := HK2.out; omega⟩, ⟨kr_ HQ21.out⟩, ⟨by repeat (first | (with_reducible first | exact HK.out | apply Kept.alloc | apply Kept.drewN | apply Kept.drew | refine Kept.setCell ?_ HMgo14.out _ | refine Kept.setCell ?_ HMgo14.out _ | refine Kept.setCell ?_ HMgo14.out _ | refine Kept.setCell ?_ HMgo14.out _) | exact HK.out)⟩, ⟨by repeat (first | (with_reducible first | exact HB.out | apply below_alloc | apply pw_below_drewN | apply below_drew1 | refine below_set ?_ GB14.out | refine below_set ?_ GB14.out | refine below_set ?_ GB14.out | refine below_set ?_ GB14.out) | exact HB.out)⟩⟩
           ·rw [if_neg c13] at H
            have c13b0 : decide (t488 < 0) = false := decide_eq_false c13; clear c13; have H' := Aside0.mk H; clear H
            try go_wp2
            replace HO_0 := Aside0.mk (Kd.R_drew HO_0.out); replace HK := Aside0.mk (Kept.drew HK.out); replace HB := Aside0.mk (below_drew1 HB.out); obtain ⟨Ao23, co23, eo23⟩ := Kd.R_slice HO_0.out
            (first | subst eo23 | (injection eo23 with f1_ f2_ f3_; have f4_ := f1_.symm; have f5_ := f3_.symm; clear f1_ f2_ f3_; subst f4_; subst f5_))
            have p486 : 0 ≤ (x9_2 : Int) := of_decide_eq_true as_; have q486 : x9_2 < (x0_2.length : Int) := of_decide_eq_true as_; obtain ⟨ad486, e486, hx486_0, hx486_1⟩ := at_T46 (Kd.R_reads' HO_0.out).2.2 x9_2 p486 q486
            cases e486
            replace p486 := eq_true p486; replace q486 := eq_true q486; have p487 : 0 ≤ ((ji9) : Int) := of_decide_eq_true as_; have q487 : (ji9) < (x0_2.length : Int) := of_decide_eq_true as_; obtain ⟨ad487, e487, hx487_0, hx487_1⟩ := at_T46 (Kd.R_reads' HO_0.out).2.2 (ji9) p487 q487; obtain rfl : ad486 = ad487 := (by injection e487)
            replace p487 := eq_true p487; replace q487 := eq_true q487; refine start_ (n := 17) (S := fun w' => w'.cell? (ad486.add ((x9_2).toNat * 2)) = some (.int .i64 ((rd_T46 x0_2 x9_2).f0)) ∧ w'.cell? ⟨(ad486.add ((x9_2).toNat * 2)).block, (ad486.add ((x9_2).toNat * 2)).off + 1, none⟩ = some (.int .i64 ((rd_T46 x0_2 x9_2).f1)) ∧ w'.cell? (ad486.add (((ji9)).toNat * 2)) = some (.int .i64 ((rd_T46 x0_2 (ji9)).f0)) ∧ w'.cell? ⟨(ad486.add (((ji9)).toNat * 2)).block, (ad486.add (((ji9)).toNat * 2)).off + 1, none⟩ = some (.int .i64 ((rd_T46 x0_2 (ji9)).f1))) (ds := []) #[false, false, false, false, false, false, false, false, false, false, false, false, false, false, false, false, false] (by kernel_rfl) rfl rfl ⟨hx486_0, hx486_1, hx487_0, hx487_1⟩ (fun hHeld => ?_); refine with_tabW impl_Diagonal__at_impl_compareDiagonals_94.tab4 impl_Diagonal__at_impl_compareDiagonals_94.bits4 (fun HT_ HW_ => ?_)
            generalize wr.drew = w22 at HO_0 HK HB hx486_0 hx486_1 hx487_0 hx487_1 hHeld ⊢
            refine pa_ 0 (some 18) rfl rfl HT_ ?_; refine pa_ 1 (some 19) rfl rfl HT_ ?_; refine pa_ 2 (some 20) rfl rfl HT_ ?_; refine pa_ 3 (some 21) rfl rfl HT_ ?_; refine pa_ 4 (some 22) rfl rfl HT_ ?_; refine pa_ 5 (some 23) rfl rfl HT_ ?_; refine pa_ 6 (some 24) rfl rfl HT_ ?_; refine pa_ 7 (some 25) rfl rfl HT_ ?_; refine pa_ 9 (some 27) rfl rfl HT_ ?_; refine pa_ 10 (some 28) rfl rfl HT_ ?_; refine pa_ 11 (some 29) rfl rfl HT_ ?_; refine pa_ 12 (some 30) rfl rfl HT_ ?_; refine ta0_ 8 (some 26) rfl rfl HT_ HW_ hHeld ?_; refine ta0_ 13 (some 31) rfl rfl HT_ HW_ hHeld ?_; refine one_ (i := 14) (N := some 32) #[true, true, true, true, true, true, true, true, true, true, true, true, true, true, true, false, false] rfl rfl (one_of HT_.out (by kernel_rfl)) (by decide) (fun K hK => ?_)
            refine goesV_ (.tmp 22) (by rfl) Tryz.func48 (by kernel_rfl) rfl #[.agg #[.int .i64 ((rd_T46 x0_2 x9_2).f0), .int .i64 ((rd_T46 x0_2 x9_2).f1)], .agg #[.int .i64 ((rd_T46 x0_2 (ji9)).f0), .int .i64 ((rd_T46 x0_2 (ji9)).f1)]] (by rfl) rfl rfl (by (try simp only [List.map_toArray, List.map_cons, List.map_nil]); first | done | (simp only [hji9]; rfl) | rfl | (simp only [List.length_drop, List.length_take]; rfl)) ?_
            with_reducible refine (impl_compareDiagonals.calls k2 ((rd_T46 x0_2 x9_2).f0) ((rd_T46 x0_2 x9_2).f1) ((rd_T46 x0_2 (ji9)).f0) ((rd_T46 x0_2 (ji9)).f1) t488 _ A12.out).mono ?_
            rintro e w24 ⟨rfl, hb⟩
            have HS0_ := (hb.cell (World.block_lt_of_cell? _ _ (hHeld.1))).trans (hHeld.1); have HS1_ := (hb.cell (World.block_lt_of_cell? _ _ (hHeld.2.1))).trans (hHeld.2.1); have HS2_ := (hb.cell (World.block_lt_of_cell? _ _ (hHeld.2.2.1))).trans (hHeld.2.2.1); have HS3_ := (hb.cell (World.block_lt_of_cell? _ _ (hHeld.2.2.2))).trans (hHeld.2.2.2); refine ⟨_, rfl, ?_⟩; have n0_ := Aside0.mk (Kd.R_below (kr_ HO_0.out) hb); have n1_ := Aside0.mk (Kept.below (S := (fun k_ => P0_ k_)) (by repeat (first | (with_reducible first | exact HK.out | apply Kept.alloc | apply Kept.drewN | apply Kept.drew) | exact HK.out)) hb)
            have n2_ := Aside0.mk (below_step (bl_ HB.out) hb); clear HO_0; clear HK; clear HB; have HO_0 := n0_; have HK := n1_; have HB := n2_; clear n0_ n1_ n2_
            (try clear hb)
            (try clear hb2)
            (try clear hk)
            (try clear hi)
            refine hK.out _ _ ⟨HS0_, HS1_, HS2_, HS3_⟩ (fun hHeld => ?_)
            clear hK K; refine na_ (some 32) ?_; refine pa_ 15 (some 33) rfl rfl HT_ ?_; refine pa_ 16 (some 34) rfl rfl HT_ ?_; refine done_ (done_of HT_.out (by kernel_rfl)) ?_
            try go_wp2
            go_roundg k2
            case measure => have := HK1.out; have := HK2.out; omega
            case rel => exact ⟨(x0_2), (wrap64 (x8_1 + 1)), (fs_), H', ⟨by have := HK1.out; have := HK2.out; omega⟩, ⟨kr_ HO_0.out⟩, ⟨by repeat (first | (with_reducible first | exact HK.out | apply Kept.alloc | apply Kept.drewN | apply Kept.drew) | exact HK.out)⟩, ⟨bl_ HB.out⟩⟩
          ·rw [if_neg c11] at H
           exact absurd H (by simp)
         ·rw [if_neg c10] at H
          exact absurd H (by simp)
        ·rw [if_neg c8] at H
         exact absurd H (by simp)
       ·rw [if_neg c7] at H
        exact absurd H (by simp)
      ·rw [if_neg c6] at H
       have c6b0 : decide (a1 < x9_2) = false := decide_eq_false c6; clear c6; have H' := Aside0.mk H; clear H
       try go_wp2
       replace HO_0 := Aside0.mk (Kd.R_drew HO_0.out); replace HK := Aside0.mk (Kept.drew HK.out); replace HB := Aside0.mk (below_drew1 HB.out); refine start_ (n := 17) (S := fun w' => True) (ds := []) #[false, false, false, false, false, false, false, false, false, false, false, false, false, false, false, false, false] (by kernel_rfl) rfl rfl trivial (fun hHeld => ?_); refine with_tabW impl_Diagonal__at_impl_compareDiagonals_94.tab4 impl_Diagonal__at_impl_compareDiagonals_94.bits4 (fun HT_ HW_ => ?_)
       generalize wr.drew = w25 at HO_0 HK HB hHeld ⊢
       refine pa_ 0 (some 18) rfl rfl HT_ ?_; refine pa_ 1 (some 19) rfl rfl HT_ ?_; refine pa_ 2 (some 20) rfl rfl HT_ ?_; refine pa_ 3 (some 21) rfl rfl HT_ ?_; refine pb_ 4 (some 22) rfl rfl HT_ ?_; refine pb_ 5 (some 23) rfl rfl HT_ ?_; refine pb_ 6 (some 24) rfl rfl HT_ ?_; refine pb_ 7 (some 25) rfl rfl HT_ ?_; refine pb_ 8 (some 26) rfl rfl HT_ ?_; refine pb_ 9 (some 27) rfl rfl HT_ ?_; refine pb_ 10 (some 28) rfl rfl HT_ ?_; refine pb_ 11 (some 29) rfl rfl HT_ ?_; refine pb_ 12 (some 30) rfl rfl HT_ ?_; refine pb_ 13 (some 31) rfl rfl HT_ ?_; refine pb_ 14 (some 32) rfl rfl HT_ ?_; refine pb_ 15 (some 33) rfl rfl HT_ ?_; refine pa_ 16 (some 34) rfl rfl HT_ ?_; refine done_ (done_of HT_.out (by kernel_rfl)) ?_
       try go_wp2
       go_roundg k2
       case measure => have := HK1.out; have := HK2.out; omega
       case rel => exact ⟨(x0_2), (wrap64 (x8_1 + 1)), (fs_), H', ⟨by have := HK1.out; have := HK2.out; omega⟩, ⟨kr_ HO_0.out⟩, ⟨by repeat (first | (with_reducible first | exact HK.out | apply Kept.alloc | apply Kept.drewN | apply Kept.drew) | exact HK.out)⟩, ⟨bl_ HB.out⟩⟩
   ·rw [if_neg c5] at H
    have c5b0 : decide (x8_1 < a2) = false := decide_eq_false c5; clear c5; obtain rfl := Option.some.inj H
    go_wp2
    first | go_end0 | ((try simp only [Exit.inBlock, Exit.then]); refine bodyPost_ret (results_none rfl _ _ _) rfl ?_)
    exact ⟨by first | rfl | (simp [errW_none, errW_some] <;> rfl) | (simp [*, errW_none, errW_some] <;> rfl), by (with_reducible repeat (first | apply Kd.R_alloc | apply Kd.R_drewN | apply Kd.R_drew)); exact HO_0.out, bl_ HB.out, by repeat (first | (with_reducible first | exact HK.out | apply Kept.alloc | apply Kept.drewN | apply Kept.drew) | exact HK.out)⟩
end Go.Proofs.YtobddjeefcoikaaGreat.PFnQuidditiesTell
