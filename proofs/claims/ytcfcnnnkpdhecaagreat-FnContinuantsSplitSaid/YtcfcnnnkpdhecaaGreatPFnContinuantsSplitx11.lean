-- Written for this claim by a program of this session (wip/tools/xprint.py over the kit's printer, wip/tools/shrink.py).
import Derived.Test.YtcfcnnnkpdhecaaGreatPFnContinuantsSplitx0
import Derived.Test.YtcfcnnnkpdhecaaGreatPFnContinuantsSplitx8
import Derived.Test.YtcfcnnnkpdhecaaGreatPFnContinuantsSplitx10
namespace Go.Proofs.YtcfcnnnkpdhecaaGreat.PFnContinuantsSplit
open Go.RowKit Go.Proofs.YtcfcnnnkpdhecaaGreatW.PrintWords Go.Proofs.YtcfcnnnkpdhecaaGreatW.PrintLast Go.Proofs.YtcfcnnnkpdhecaaGreatW.PrintMore
attribute [local go_sem] max2_int min2_int max_two min_two max_three min_three max_four min_four   -- for this text's walks alone
set_option linter.unusedVariables false
set_option linter.unusedSimpArgs false
def cmp_Compare_int.f (a0 : Int) (a1 : Int) : Option (Int) := (cmp_isNaN_int.f a0).bind fun t366 => ((cmp_isNaN_int.f a1).bind fun t367 => (if t366 = true then (if t367 = true then (some 0) else (some (-1))) else (if t367 = true then (some 1) else (if a0 < a1 then (some (-1)) else (if a0 > a1 then (some 1) else (some 0))))))
set_option maxHeartbeats 8000000 in
set_option maxRecDepth 100000 in
theorem cmp_Compare_int.calls (a0 : Int) (a1 : Int) (r : Int) (w : World) (h : cmp_Compare_int.f a0 a1 = some r) :
  Calls Tryz.prog 86 #[.int .i64 a0, .int .i64 a1] w fun e w' => e = .returned (.int .i64 r) ∧ Drawn0 w w' := by
 have H : ((cmp_isNaN_int.f a0).bind fun t366 => ((cmp_isNaN_int.f a1).bind fun t367 => (if t366 = true then (if t367 = true then (some 0) else (some (-1))) else (if t367 = true then (some 1) else (if a0 < a1 then (some (-1)) else (if a0 > a1 then (some 1) else (some 0))))))) = some r := h
 clear h; replace H := Option.bind_eq_some_iff.mp H; obtain ⟨t366, A30, H⟩ := H; have A3 := Aside0.mk A30; clear A30; replace H := Option.bind_eq_some_iff.mp H; obtain ⟨t367, A40, H⟩ := H; have A4 := Aside0.mk A40; clear A40
 by_cases c5 : t366 = true
 ·subst c5
  rw [if_pos rfl] at H
  by_cases c6 : t367 = true
  ·subst c6
   rw [if_pos rfl] at H
   obtain rfl := Option.some.inj H
   go_enter Tryz.func86, Tryz.ntmps86
   go_wp2_with (first | ((with_reducible refine gate_callee (f := 101) rfl ?_); refine gl_ (some 8) Tryz.func101 #[.int .i64 a0] rfl ?_; (with_reducible refine (cmp_isNaN_int.calls a0 true _ A3.out).mono ?_); rintro e w' ⟨rfl, ⟨nd, rfl⟩⟩; refine ⟨_, rfl, ?_⟩) | ((with_reducible refine gate_callee (f := 101) rfl ?_); refine gl_ (some 10) Tryz.func101 #[.int .i64 a1] rfl ?_; (with_reducible refine (cmp_isNaN_int.calls a1 true _ A4.out).mono ?_); rintro e w' ⟨rfl, ⟨nd, rfl⟩⟩; refine ⟨_, rfl, ?_⟩))
   go_ret
   exact ⟨fs_, dr_⟩
  ·replace c6 := Bool.eq_false_iff.mpr c6
   subst c6; rw [if_neg (show ¬ (false = true) by decide)] at H
   obtain rfl := Option.some.inj H
   go_enter Tryz.func86, Tryz.ntmps86
   go_wp2_with (first | ((with_reducible refine gate_callee (f := 101) rfl ?_); refine gl_ (some 8) Tryz.func101 #[.int .i64 a0] rfl ?_; (with_reducible refine (cmp_isNaN_int.calls a0 true _ A3.out).mono ?_); rintro e w' ⟨rfl, ⟨nd, rfl⟩⟩; refine ⟨_, rfl, ?_⟩) | ((with_reducible refine gate_callee (f := 101) rfl ?_); refine gl_ (some 10) Tryz.func101 #[.int .i64 a1] rfl ?_; (with_reducible refine (cmp_isNaN_int.calls a1 false _ A4.out).mono ?_); rintro e w' ⟨rfl, ⟨nd, rfl⟩⟩; refine ⟨_, rfl, ?_⟩))
   go_ret
   exact ⟨fs_, dr_⟩
 ·replace c5 := Bool.eq_false_iff.mpr c5
  subst c5; rw [if_neg (show ¬ (false = true) by decide)] at H
  by_cases c7 : t367 = true
  ·subst c7
   rw [if_pos rfl] at H
   obtain rfl := Option.some.inj H
   go_enter Tryz.func86, Tryz.ntmps86
   go_wp2_with (first | ((with_reducible refine gate_callee (f := 101) rfl ?_); refine gl_ (some 8) Tryz.func101 #[.int .i64 a0] rfl ?_; (with_reducible refine (cmp_isNaN_int.calls a0 false _ A3.out).mono ?_); rintro e w' ⟨rfl, ⟨nd, rfl⟩⟩; refine ⟨_, rfl, ?_⟩) | ((with_reducible refine gate_callee (f := 101) rfl ?_); refine gl_ (some 10) Tryz.func101 #[.int .i64 a1] rfl ?_; (with_reducible refine (cmp_isNaN_int.calls a1 true _ A4.out).mono ?_); rintro e w' ⟨rfl, ⟨nd, rfl⟩⟩; refine ⟨_, rfl, ?_⟩))
   go_ret
   exact ⟨fs_, dr_⟩
  ·replace c7 := Bool.eq_false_iff.mpr c7
   subst c7; rw [if_neg (show ¬ (false = true) by decide)] at H
   by_cases c8 : a0 < a1
   ·rw [if_pos c8] at H
    have c8b0 : decide (a0 < a1) = true := decide_eq_true c8; clear c8; obtain rfl := Option.some.inj H
    go_enter Tryz.func86, Tryz.ntmps86
    go_wp2_with (first | ((with_reducible refine gate_callee (f := 101) rfl ?_); refine gl_ (some 8) Tryz.func101 #[.int .i64 a0] rfl ?_; (with_reducible refine (cmp_isNaN_int.calls a0 false _ A3.out).mono ?_); rintro e w' ⟨rfl, ⟨nd, rfl⟩⟩; refine ⟨_, rfl, ?_⟩) | ((with_reducible refine gate_callee (f := 101) rfl ?_); refine gl_ (some 10) Tryz.func101 #[.int .i64 a1] rfl ?_; (with_reducible refine (cmp_isNaN_int.calls a1 false _ A4.out).mono ?_); rintro e w' ⟨rfl, ⟨nd, rfl⟩⟩; refine ⟨_, rfl, ?_⟩))
    go_ret
    exact ⟨fs_, dr_⟩
   ·rw [if_neg c8] at H
    have c8b0 : decide (a0 < a1) = false := decide_eq_false c8; clear c8
    by_cases c9 : a0 > a1
    ·rw [if_pos c9] at H
     have c9b0 : decide (a1 < a0) = true := decide_eq_true c9; clear c9; obtain rfl := Option.some.inj H
     go_enter Tryz.func86, Tryz.ntmps86
     go_wp2_with (first | ((with_reducible refine gate_callee (f := 101) rfl ?_); refine gl_ (some 8) Tryz.func101 #[.int .i64 a0] rfl ?_; (with_reducible refine (cmp_isNaN_int.calls a0 false _ A3.out).mono ?_); rintro e w' ⟨rfl, ⟨nd, rfl⟩⟩; refine ⟨_, rfl, ?_⟩) | ((with_reducible refine gate_callee (f := 101) rfl ?_); refine gl_ (some 10) Tryz.func101 #[.int .i64 a1] rfl ?_; (with_reducible refine (cmp_isNaN_int.calls a1 false _ A4.out).mono ?_); rintro e w' ⟨rfl, ⟨nd, rfl⟩⟩; refine ⟨_, rfl, ?_⟩))
     go_ret
     exact ⟨fs_, dr_⟩
    ·rw [if_neg c9] at H
     have c9b0 : decide (a1 < a0) = false := decide_eq_false c9; clear c9; obtain rfl := Option.some.inj H
     go_enter Tryz.func86, Tryz.ntmps86
     go_wp2_with (first | ((with_reducible refine gate_callee (f := 101) rfl ?_); refine gl_ (some 8) Tryz.func101 #[.int .i64 a0] rfl ?_; (with_reducible refine (cmp_isNaN_int.calls a0 false _ A3.out).mono ?_); rintro e w' ⟨rfl, ⟨nd, rfl⟩⟩; refine ⟨_, rfl, ?_⟩) | ((with_reducible refine gate_callee (f := 101) rfl ?_); refine gl_ (some 10) Tryz.func101 #[.int .i64 a1] rfl ?_; (with_reducible refine (cmp_isNaN_int.calls a1 false _ A4.out).mono ?_); rintro e w' ⟨rfl, ⟨nd, rfl⟩⟩; refine ⟨_, rfl, ?_⟩))
     go_ret
     exact ⟨fs_, dr_⟩
def impl_compareDiagonals.f (k : Nat) (a0_0 : Int) (a0_1 : Int) (a1_0 : Int) (a1_1 : Int) : Option (Int) := (cmp_Compare_int.f a0_0 a1_0).bind fun t370 => ((cmp_Compare_int.f a0_1 a1_1).bind fun t371 => ((cmp_Or_int.f k (([t370, t371] : List Int))).bind fun t375 => (some t375)))
def impl_compareDiagonals.T1 : Bool × List (List Nat × List Nat) := (true, [([], []), ([0], [0]), ([], []), ([2], [2]), ([1, 3], [1, 3]), ([], []), ([5], [5]), ([], []), ([7], [7]), ([6, 8, 4], [6, 8]), ([4, 9], [4, 9]), ([10, 9], [10]), ([11, 11, 0, 1, 2, 3, 4, 5, 6, 7, 8, 9, 10, 11], [11])])
def impl_compareDiagonals.B1 : List Nat := [0, 1, 0, 4, 15, 0, 32, 0, 128, 511, 1023, 2047, 4095]
theorem impl_compareDiagonals.tab1 : rtab .any (opsOf Tryz.f78 1) = impl_compareDiagonals.T1 := by kernel_rfl
theorem impl_compareDiagonals.bits1 : waitsOk impl_compareDiagonals.T1.2 impl_compareDiagonals.B1 = true := by kernel_rfl
set_option maxHeartbeats 8000000 in
set_option maxRecDepth 100000 in
theorem impl_compareDiagonals.calls (k : Nat) (a0_0 : Int) (a0_1 : Int) (a1_0 : Int) (a1_1 : Int) (r : Int) (w : World) (h : impl_compareDiagonals.f k a0_0 a0_1 a1_0 a1_1 = some r) :
  Calls Tryz.prog 78 #[.agg #[.int .i64 a0_0, .int .i64 a0_1], .agg #[.int .i64 a1_0, .int .i64 a1_1]] w fun e w' => e = .returned (.int .i64 r) ∧ Below w.heap.size w w' := by
 have hu80 := Tryz.underlying80; have HB := Aside0.mk (Below.refl w.heap.size w); have H : ((cmp_Compare_int.f a0_0 a1_0).bind fun t370 => ((cmp_Compare_int.f a0_1 a1_1).bind fun t371 => ((cmp_Or_int.f k (([t370, t371] : List Int))).bind fun t375 => (some t375)))) = some r := h
 clear h; replace H := Option.bind_eq_some_iff.mp H; obtain ⟨t370, A30, H⟩ := H; have A3 := Aside0.mk A30; clear A30; replace H := Option.bind_eq_some_iff.mp H; obtain ⟨t371, A40, H⟩ := H; have A4 := Aside0.mk A40; clear A40; obtain ⟨y372, hy372⟩ : ∃ y_ : List Int, y_ = (([t370, t371] : List Int)) := ⟨_, rfl⟩; replace H : ((cmp_Or_int.f k y372).bind fun t375 => (some t375)) = some r := rh_ hy372 H
 have Ny372 := Aside0.mk hy372; clear hy372; replace H := Option.bind_eq_some_iff.mp H; obtain ⟨t375, A50, H⟩ := H; have A5 := Aside0.mk A50; clear A50; obtain rfl := Option.some.inj H
 go_enter Tryz.func78, Tryz.ntmps78
 try go_wp2_with (first | ((with_reducible refine gate_dst (N := 2) rfl ?_); refine be_ #[.int .i64 a0_0, .int .i64 a0_1] 80 ?_; intro gb368 hg w6 hbox hb; have BK368 := Aside0.mk (hbox); have GW368 := Aside0.mk ((by rw [hg]; exact (below_size (bl_ HB.out)) : w.heap.size ≤ gb368)); have GE368 := Aside0.mk ((by rw [hg]; exact (below_size (bl_ HB.out)) : w.heap.size ≤ gb368)); replace HB := Aside0.mk (below_step (bl_ HB.out) hb); clear hb hbox hg) | ((with_reducible refine gate_dst (N := 3) rfl ?_); refine be_ #[.int .i64 a1_0, .int .i64 a1_1] 80 ?_; intro gb369 hg w7 hbox hb; have BK369 := Aside0.mk (hbox); have GW369 := Aside0.mk ((by rw [hg]; exact (below_size (bs_ HB.out GE368.out)) : w.heap.size ≤ gb369)); have GE369 := Aside0.mk ((by rw [hg]; exact (below_size (bs_ HB.out GE368.out)) : w.heap.size ≤ gb369)); replace HB := Aside0.mk (below_step (bs_ HB.out GE368.out) hb); have NB368_369 := Aside0.mk ((by rw [hg]; exact Nat.ne_of_lt (blk_lt (g := gb368) (o := .cells #[.int .i64 a0_0, .int .i64 a0_1] 80 (0, 0)) (bk_ BK368.out)) : gb368 ≠ gb369)); have NB369_368 := Aside0.mk ((by rw [hg]; exact Nat.ne_of_gt (blk_lt (g := gb368) (o := .cells #[.int .i64 a0_0, .int .i64 a0_1] 80 (0, 0)) (bk_ BK368.out)) : gb369 ≠ gb368)); replace BK368 := Aside0.mk (blk_below (g := gb368) (o := .cells #[.int .i64 a0_0, .int .i64 a0_1] 80 (0, 0)) (bk_ BK368.out) hb); clear hb hbox hg))
 replace BK368 := Aside0.mk (blk_drew BK368.out); replace BK369 := Aside0.mk (blk_drew BK369.out); replace HB := Aside0.mk (below_drew1 HB.out); refine start_ (n := 13) (S := fun w' => w'.cell? ⟨gb368, 0, none⟩ = some (.int .i64 a0_0) ∧ w'.cell? ⟨gb368, 1, none⟩ = some (.int .i64 a0_1) ∧ w'.cell? ⟨gb369, 0, none⟩ = some (.int .i64 a1_0) ∧ w'.cell? ⟨gb369, 1, none⟩ = some (.int .i64 a1_1)) (ds := []) #[false, false, false, false, false, false, false, false, false, false, false, false, false] (by kernel_rfl) rfl rfl ⟨(blk_cell BK368.out 0).trans rfl, (blk_cell BK368.out 1).trans rfl, (blk_cell BK369.out 0).trans rfl, (blk_cell BK369.out 1).trans rfl⟩ (fun hHeld => ?_); refine with_tabW impl_compareDiagonals.tab1 impl_compareDiagonals.bits1 (fun HT_ HW_ => ?_)
 generalize w7.drew = w8 at BK368 BK369 HB hHeld ⊢
 refine pa_ 0 (some 5) rfl rfl HT_ ?_; refine pa_ 2 (some 7) rfl rfl HT_ ?_; refine pa_ 5 (some 10) rfl rfl HT_ ?_; refine pa_ 7 (some 12) rfl rfl HT_ ?_; refine ta0_ 1 (some 6) rfl rfl HT_ HW_ hHeld ?_; refine ta0_ 3 (some 8) rfl rfl HT_ HW_ hHeld ?_; refine ta0_ 6 (some 11) rfl rfl HT_ HW_ hHeld ?_; refine ta0_ 8 (some 13) rfl rfl HT_ HW_ hHeld ?_; refine one_ (i := 4) (N := some 9) #[true, true, true, true, true, true, true, true, true, false, false, false, false] rfl rfl (one_of HT_.out (by kernel_rfl)) (by decide) (fun K hK => ?_)
 refine goes_ Tryz.func86 (by kernel_rfl) rfl #[.int .i64 a0_0, .int .i64 a1_0] (by rfl) rfl rfl (by (try simp only [List.map_toArray, List.map_cons, List.map_nil]); first | done | rfl | (simp only [List.length_drop, List.length_take]; rfl)) ?_
 with_reducible refine (cmp_Compare_int.calls a0_0 a1_0 t370 _ A3.out).mono ?_
 rintro e w' ⟨rfl, ⟨nd, rfl⟩⟩
 refine ⟨_, rfl, ?_⟩; refine hK.out _ _ ⟨(blk_cell BK368.out 0).trans rfl, (blk_cell BK368.out 1).trans rfl, (blk_cell BK369.out 0).trans rfl, (blk_cell BK369.out 1).trans rfl⟩ (fun hHeld => ?_)
 clear hK K; refine na_ (some 9) ?_; refine one_ (i := 9) (N := some 14) #[true, true, true, true, true, true, true, true, true, true, false, false, false] rfl rfl (one_of HT_.out (by kernel_rfl)) (by decide) (fun K hK => ?_)
 refine goes_ Tryz.func86 (by kernel_rfl) rfl #[.int .i64 a0_1, .int .i64 a1_1] (by rfl) rfl rfl (by (try simp only [List.map_toArray, List.map_cons, List.map_nil]); first | done | rfl | (simp only [List.length_drop, List.length_take]; rfl)) ?_
 with_reducible refine (cmp_Compare_int.calls a0_1 a1_1 t371 _ A4.out).mono ?_
 rintro e w' ⟨rfl, ⟨nd, rfl⟩⟩
 refine ⟨_, rfl, ?_⟩; refine hK.out _ _ ⟨(blk_cell BK368.out 0).trans rfl, (blk_cell BK368.out 1).trans rfl, (blk_cell BK369.out 0).trans rfl, (blk_cell BK369.out 1).trans rfl⟩ (fun hHeld => ?_)
 clear hK K; refine na_ (some 14) ?_; refine one_ (i := 10) (N := some 15) #[true, true, true, true, true, true, true, true, true, true, true, false, false] rfl rfl (one_of HT_.out (by kernel_rfl)) (by decide) (fun K hK => ?_)
 refine Kd.R_lit_step (Kd.int .i64) _ 3 ?hg (N := 15) ?hd (xs := ([t370, t371] : List Int)) (inner := [.int .i64 t370, .int .i64 t371]) (ok := fun _ => True) (okp := fun _ => True) ?hr ?hp (fun _ hk => hk) trivial (Below.refl _ _) (Nat.le_refl _) (by simp) ?_; (case hd => rfl); (case hg => rfl); (case hr => first | (go_simp; done) | (go_simp; rfl)); (case hp => exact (Reps.one (show Kd.M (Kd.int .i64) _ _ _ t370 [.int .i64 t370] from rfl) (Reps.one (show Kd.M (Kd.int .i64) _ _ _ t371 [.int .i64 t371] from rfl) (Reps.none _ _))))
 intro v373 w9 ho10 hb hg_ hnew_; clear hg_ hnew_
 (first | rw [← Ny372.out] at ho10 | (simp only [Int.reduceToNat] at ho10; rw [← Ny372.out] at ho10))
 have n0_ := Aside0.mk (Kd.R_lower ho10 (below_size (by repeat (first | (with_reducible first | exact HB.out | apply below_alloc | apply pw_below_drewN | apply below_drew1 | refine below_set ?_ GE368.out | refine below_set ?_ GE369.out) | exact HB.out))))
 have n1_ := Aside0.mk (blk_below (g := gb368) (o := .cells #[.int .i64 a0_0, .int .i64 a0_1] 80 (0, 0)) (bk_ BK368.out) hb); have n2_ := Aside0.mk (blk_below (g := gb369) (o := .cells #[.int .i64 a1_0, .int .i64 a1_1] 80 (0, 0)) (bk_ BK369.out) hb); have n3_ := Aside0.mk (below_step (by repeat (first | (with_reducible first | exact HB.out | apply below_alloc | apply pw_below_drewN | apply below_drew1 | refine below_set ?_ GE368.out | refine below_set ?_ GE369.out) | exact HB.out)) hb)
 clear BK368; clear BK369; clear HB; have HO374 := n0_; have BK368 := n1_; have BK369 := n2_; have HB := n3_; clear n0_ n1_ n2_ n3_; clear hb ho10; obtain ⟨Ao11, co11, eo11⟩ := Kd.R_slice HO374.out
 (first | subst eo11 | (injection eo11 with f1_ f2_ f3_; have f4_ := f1_.symm; have f5_ := f3_.symm; clear f1_ f2_ f3_; subst f4_; subst f5_))
 refine hK.out _ _ ⟨(blk_cell BK368.out 0).trans rfl, (blk_cell BK368.out 1).trans rfl, (blk_cell BK369.out 0).trans rfl, (blk_cell BK369.out 1).trans rfl⟩ (fun hHeld => ?_)
 clear hK K; refine na_ (some 15) ?_; refine one_ (i := 11) (N := some 16) #[true, true, true, true, true, true, true, true, true, true, true, true, false] rfl rfl (one_of HT_.out (by kernel_rfl)) (by decide) (fun K hK => ?_)
 refine goes_ Tryz.func85 (by kernel_rfl) rfl #[.slice Ao11 y372.length co11] (by rfl) rfl rfl (by (try simp only [List.map_toArray, List.map_cons, List.map_nil]); first | done | rfl | (simp only [List.length_drop, List.length_take]; rfl)) ?_
 with_reducible refine (cmp_Or_int.calls k _ _ y372 t375 _ ?side1 ?side2 A5.out).mono ?_
 (case side1 => exact cc_ (Kd.R_reads' HO374.out).2.2)
 (case side2 => exact (Kd.R_reads' HO374.out).2.1)
 rintro e w' ⟨rfl, ⟨nd, rfl⟩⟩
 refine ⟨_, rfl, ?_⟩; refine hK.out _ _ ⟨(blk_cell BK368.out 0).trans rfl, (blk_cell BK368.out 1).trans rfl, (blk_cell BK369.out 0).trans rfl, (blk_cell BK369.out 1).trans rfl⟩ (fun hHeld => ?_)
 clear hK K; refine na_ (some 16) ?_; refine pa_ 12 (some 4) rfl rfl HT_ ?_; refine done_ (done_of HT_.out (by kernel_rfl)) ?_
 try go_wp2
 go_ret
 exact ⟨by first | rfl | (simp [errW_none, errW_some] <;> rfl) | (simp [*, errW_none, errW_some] <;> rfl), by repeat (first | (with_reducible first | exact HB.out | apply below_alloc | apply pw_below_drewN | apply below_drew1 | refine below_set ?_ GE368.out | refine below_set ?_ GE369.out) | exact HB.out)⟩
def slices_Equal_int_int.l0 : Nat → List Int → List Int → Int → Int → Option (Bool)
 | 0, _, _, _, _ => none
 | k + 1, x0, x1, x12, x13 => if x13 < x12 then (if 0 ≤ x13 then (if x13 < (x0.length : Int) then (if x13 < (x1.length : Int) then (if (rd x0 x13) = (rd x1 x13) then (slices_Equal_int_int.l0 k x0 x1 x12 (wrap64 (x13 + 1))) else (some false)) else (none)) else (none)) else (none)) else (some true)
def slices_Equal_int_int.f (k : Nat) (l0 : List Int) (l1 : List Int) : Option (Bool) := if (l0.length : Int) = (l1.length : Int) then (slices_Equal_int_int.l0 k l0 l1 (l0.length : Int) 0) else (some false)
set_option maxHeartbeats 8000000 in
set_option maxRecDepth 100000 in
theorem slices_Equal_int_int.calls (k : Nat) (A0 : Option Addr) (c0 : Nat) (l0 : List Int) (A1 : Option Addr) (c1 : Nat) (l1 : List Int) (r : Bool) (w : World) (hr0 : Kd.C (Kd.int .i64) w A0 l0.length l0) (hc0 : l0.length ≤ c0) (hr1 : Kd.C (Kd.int .i64) w A1 l1.length l1) (hc1 : l1.length ≤ c1) (h : slices_Equal_int_int.f k l0 l1 = some r) :
  Calls Tryz.prog 79 #[.slice A0 l0.length c0, .slice A1 l1.length c1] w fun e w' => e = .returned (.bool r) ∧ Drawn0 w w' := by
 have HR0 := Aside0.mk hr0; have HC0 := Aside0.mk hc0; clear hr0 hc0; have HR1 := Aside0.mk hr1; have HC1 := Aside0.mk hc1; clear hr1 hc1; have H : (if (l0.length : Int) = (l1.length : Int) then (slices_Equal_int_int.l0 k l0 l1 (l0.length : Int) 0) else (some false)) = some r := h
 clear h
 by_cases c3 : (l0.length : Int) = (l1.length : Int)
 ·rw [if_pos c3] at H
  have c3b0 : ((l0.length : Int) == (l1.length : Int)) = true := beq_iff_eq.mpr c3; have c3b1 : ((l0.length : Int) != (l1.length : Int)) = false := bne_eq_false_iff_eq.mpr c3; have c3b2 : (l0.length == l1.length) = true := by first | simpa using c3 | (simp at c3 ⊢; omega)
  clear c3; have H' := Aside0.mk H; clear H
  go_enter Tryz.func79, Tryz.ntmps79
  go_wp2
  repeat (go_quiet (fail); try go_wp2)
  go_loopg [13] k (fun kq v13 w' => ∃ (x13_1 : Int), v13 = .int .i64 x13_1 ∧ Aside0 (slices_Equal_int_int.l0 kq l0 l1 (l0.length : Int) x13_1 = some r) ∧ Aside0 (kq ≤ k) ∧ Drawn0 w w')
  case atStart => exact ⟨(0), (fs_), H', ⟨Nat.le_refl _⟩, dr_⟩
  case round =>
   clear H'
   try clear c1
   try clear p2
   try clear c3
   try clear c3b0
   try clear c3b1
   try clear c3b2
   obtain ⟨x13_1, rfl, HA, HK1, ⟨m1, rfl⟩⟩ := hrel
   cases gk with
   | zero => exact absurd HA.out (by simp [slices_Equal_int_int.l0])
   | succ k1 =>
    have H := HA.out; clear HA
    simp only [slices_Equal_int_int.l0] at H
    by_cases c4 : x13_1 < (l0.length : Int)
    ·rw [if_pos c4] at H
     have c4b0 : decide (x13_1 < (l0.length : Int)) = true := decide_eq_true c4; clear c4
     by_cases c5 : 0 ≤ x13_1
     ·rw [if_pos c5] at H
      have c5b0 : decide (0 ≤ x13_1) = true := decide_eq_true c5; clear c5
      by_cases c6 : x13_1 < (l0.length : Int)
      ·rw [if_pos c6] at H
       have c6b0 : decide (x13_1 < (l0.length : Int)) = true := decide_eq_true c6; clear c6
       by_cases c7 : x13_1 < (l1.length : Int)
       ·rw [if_pos c7] at H
        have c7b0 : decide (x13_1 < (l1.length : Int)) = true := decide_eq_true c7; clear c7
        by_cases c8 : (rd l0 x13_1) = (rd l1 x13_1)
        ·rw [if_pos c8] at H
         have c8b0 : ((rd l0 x13_1) == (rd l1 x13_1)) = true := beq_iff_eq.mpr c8; have c8b1 : ((rd l0 x13_1) != (rd l1 x13_1)) = false := bne_eq_false_iff_eq.mpr c8; clear c8; have H' := Aside0.mk H; clear H; have p376 : 0 ≤ (x13_1 : Int) := of_decide_eq_true as_; have q376 : x13_1 < (l0.length : Int) := of_decide_eq_true as_; obtain ⟨ad376, e376, hx376_0⟩ := Kd.at_int HR0.out x13_1 p376 q376
         cases e376
         replace p376 := eq_true p376; replace q376 := eq_true q376; have p377 : 0 ≤ (x13_1 : Int) := of_decide_eq_true as_; have q377 : x13_1 < (l1.length : Int) := of_decide_eq_true as_; obtain ⟨ad377, e377, hx377_0⟩ := Kd.at_int HR1.out x13_1 p377 q377
         cases e377
         replace p377 := eq_true p377; replace q377 := eq_true q377
         go_wp2
         repeat (go_quiet (fail); try go_wp2)
         go_roundg k1
         case measure => have := HK1.out; omega
         case rel => exact ⟨(wrap64 (x13_1 + 1)), (fs_), H', ⟨by have := HK1.out; omega⟩, dr_⟩
        ·rw [if_neg c8] at H
         have c8b0 : ((rd l0 x13_1) == (rd l1 x13_1)) = false := beq_eq_false_iff_ne.mpr c8; have c8b1 : ((rd l0 x13_1) != (rd l1 x13_1)) = true := bne_iff_ne.mpr c8; obtain rfl := Option.some.inj H; have p376 : 0 ≤ (x13_1 : Int) := of_decide_eq_true as_; have q376 : x13_1 < (l0.length : Int) := of_decide_eq_true as_; obtain ⟨ad376, e376, hx376_0⟩ := Kd.at_int HR0.out x13_1 p376 q376
         cases e376
         replace p376 := eq_true p376; replace q376 := eq_true q376; have p377 : 0 ≤ (x13_1 : Int) := of_decide_eq_true as_; have q377 : x13_1 < (l1.length : Int) := of_decide_eq_true as_; obtain ⟨ad377, e377, hx377_0⟩ := Kd.at_int HR1.out x13_1 p377 q377
         cases e377
         replace p377 := eq_true p377; replace q377 := eq_true q377
         go_wp2
         repeat (go_quiet (fail); try go_wp2)
         go_ret
         exact ⟨fs_, dr_⟩
       ·rw [if_neg c7] at H
        exact absurd H (by simp)
      ·rw [if_neg c6] at H
       exact absurd H (by simp)
     ·rw [if_neg c5] at H
      exact absurd H (by simp)
    ·rw [if_neg c4] at H
     have c4b0 : decide (x13_1 < (l0.length : Int)) = false := decide_eq_false c4; clear c4; obtain rfl := Option.some.inj H
     go_wp2
     repeat (go_quiet (fail); try go_wp2)
     go_ret
     exact ⟨fs_, dr_⟩
 ·rw [if_neg c3] at H
  have c3b0 : ((l0.length : Int) == (l1.length : Int)) = false := beq_eq_false_iff_ne.mpr c3; have c3b1 : ((l0.length : Int) != (l1.length : Int)) = true := bne_iff_ne.mpr c3; have c3b2 : (l0.length == l1.length) = false := by first | simpa using c3 | (simp at c3 ⊢; omega)
  obtain rfl := Option.some.inj H
  go_enter Tryz.func79, Tryz.ntmps79
  go_wp2
  repeat (go_quiet (fail); try go_wp2)
  go_ret
  exact ⟨fs_, dr_⟩
def impl_isDiagonal.f (a0 : Int) (a1_0 : Int) (a1_1 : Int) : Option (Bool) := (impl_within.f a1_0 0 (wrap64 (a0 - 1))).bind fun t379 => (if t379 = true then ((impl_within.f a1_1 0 (wrap64 (a0 - 1))).bind fun t380 => (if t380 = true then (if (wrap64 (a1_1 - a1_0)) > 1 then (if a1_0 = 0 then (some (!(a1_1 == (wrap64 (a0 - 1))))) else (some (!false))) else (some false)) else (some false))) else (some false))
set_option maxHeartbeats 8000000 in
set_option maxRecDepth 100000 in
theorem impl_isDiagonal.calls (a0 : Int) (a1_0 : Int) (a1_1 : Int) (r : Bool) (w : World) (h : impl_isDiagonal.f a0 a1_0 a1_1 = some r) :
  Calls Tryz.prog 87 #[.int .i64 a0, .agg #[.int .i64 a1_0, .int .i64 a1_1]] w fun e w' => e = .returned (.bool r) ∧ Below w.heap.size w w' := by
 have hu80 := Tryz.underlying80; have HB := Aside0.mk (Below.refl w.heap.size w); have H : ((impl_within.f a1_0 0 (wrap64 (a0 - 1))).bind fun t379 => (if t379 = true then ((impl_within.f a1_1 0 (wrap64 (a0 - 1))).bind fun t380 => (if t380 = true then (if (wrap64 (a1_1 - a1_0)) > 1 then (if a1_0 = 0 then (some (!(a1_1 == (wrap64 (a0 - 1))))) else (some (!false))) else (some false)) else (some false))) else (some false))) = some r := h
 clear h; replace H := Option.bind_eq_some_iff.mp H; obtain ⟨t379, A30, H⟩ := H; have A3 := Aside0.mk A30; clear A30
 by_cases c4 : t379 = true
 ·subst c4
  rw [if_pos rfl] at H
  replace H := Option.bind_eq_some_iff.mp H; obtain ⟨t380, A50, H⟩ := H; have A5 := Aside0.mk A50; clear A50
  by_cases c6 : t380 = true
  ·subst c6
   rw [if_pos rfl] at H
   by_cases c7 : (wrap64 (a1_1 - a1_0)) > 1
   ·rw [if_pos c7] at H
    have c7b0 : decide (1 < (wrap64 (a1_1 - a1_0))) = true := decide_eq_true c7; clear c7
    by_cases c8 : a1_0 = 0
    ·rw [if_pos c8] at H
     have c8b0 : (a1_0 == 0) = true := beq_iff_eq.mpr c8; have c8b1 : (a1_0 != 0) = false := bne_eq_false_iff_eq.mpr c8; clear c8; obtain rfl := Option.some.inj H
     go_enter Tryz.func87, Tryz.ntmps87
     go_wp2_with (first | ((with_reducible refine gate_dst (N := 3) rfl ?_); refine be_ #[.int .i64 a1_0, .int .i64 a1_1] 80 ?_; intro gb378 hg w9 hbox hb; have BK378 := Aside0.mk (hbox); have GW378 := Aside0.mk ((by rw [hg]; exact (below_size (bl_ HB.out)) : w.heap.size ≤ gb378)); have GE378 := Aside0.mk ((by rw [hg]; exact (below_size (bl_ HB.out)) : w.heap.size ≤ gb378)); replace HB := Aside0.mk (below_step (bl_ HB.out) hb); clear hb hbox hg; have hcz10_0 := cz_ BK378.out 0 (.int .i64 a1_0); have hcz10_1 := cz_ BK378.out 1 (.int .i64 a1_1); have hfz10_0 := blk_frozen BK378.out 0; have hfz10_1 := blk_frozen BK378.out 1) | ((with_reducible refine gate_callee (f := 43) rfl ?_); refine gl_ (some 9) Tryz.func43 #[.int .i64 a1_0, .int .i64 0, .int .i64 (wrap64 (a0 - 1))] rfl ?_; (with_reducible refine (impl_within.calls a1_0 0 (wrap64 (a0 - 1)) true _ A3.out).mono ?_); rintro e w' ⟨rfl, ⟨nd, rfl⟩⟩; refine ⟨_, rfl, ?_⟩) | (go_at_call 43; (with_reducible refine (impl_within.calls a1_1 0 (wrap64 (a0 - 1)) true _ A5.out).mono ?_); rintro e w' ⟨rfl, ⟨nd, rfl⟩⟩))
     go_ret
     exact ⟨by first | rfl | (simp [errW_none, errW_some] <;> rfl) | (simp [*, errW_none, errW_some] <;> rfl), bs_ HB.out GE378.out⟩
    ·rw [if_neg c8] at H
     have c8b0 : (a1_0 == 0) = false := beq_eq_false_iff_ne.mpr c8; have c8b1 : (a1_0 != 0) = true := bne_iff_ne.mpr c8; obtain rfl := Option.some.inj H
     go_enter Tryz.func87, Tryz.ntmps87
     go_wp2_with (first | ((with_reducible refine gate_dst (N := 3) rfl ?_); refine be_ #[.int .i64 a1_0, .int .i64 a1_1] 80 ?_; intro gb378 hg w11 hbox hb; have BK378 := Aside0.mk (hbox); have GW378 := Aside0.mk ((by rw [hg]; exact (below_size (bl_ HB.out)) : w.heap.size ≤ gb378)); have GE378 := Aside0.mk ((by rw [hg]; exact (below_size (bl_ HB.out)) : w.heap.size ≤ gb378)); replace HB := Aside0.mk (below_step (bl_ HB.out) hb); clear hb hbox hg; have hcz12_0 := cz_ BK378.out 0 (.int .i64 a1_0); have hcz12_1 := cz_ BK378.out 1 (.int .i64 a1_1); have hfz12_0 := blk_frozen BK378.out 0; have hfz12_1 := blk_frozen BK378.out 1) | ((with_reducible refine gate_callee (f := 43) rfl ?_); refine gl_ (some 9) Tryz.func43 #[.int .i64 a1_0, .int .i64 0, .int .i64 (wrap64 (a0 - 1))] rfl ?_; (with_reducible refine (impl_within.calls a1_0 0 (wrap64 (a0 - 1)) true _ A3.out).mono ?_); rintro e w' ⟨rfl, ⟨nd, rfl⟩⟩; refine ⟨_, rfl, ?_⟩) | (go_at_call 43; (with_reducible refine (impl_within.calls a1_1 0 (wrap64 (a0 - 1)) true _ A5.out).mono ?_); rintro e w' ⟨rfl, ⟨nd, rfl⟩⟩))
     go_ret
     exact ⟨by first | rfl | (simp [errW_none, errW_some] <;> rfl) | (simp [*, errW_none, errW_some] <;> rfl), bs_ HB.out GE378.out⟩
   ·rw [if_neg c7] at H
    have c7b0 : decide (1 < (wrap64 (a1_1 - a1_0))) = false := decide_eq_false c7; clear c7; obtain rfl := Option.some.inj H
    go_enter Tryz.func87, Tryz.ntmps87
    go_wp2_with (first | ((with_reducible refine gate_dst (N := 3) rfl ?_); refine be_ #[.int .i64 a1_0, .int .i64 a1_1] 80 ?_; intro gb378 hg w13 hbox hb; have BK378 := Aside0.mk (hbox); have GW378 := Aside0.mk ((by rw [hg]; exact (below_size (bl_ HB.out)) : w.heap.size ≤ gb378)); have GE378 := Aside0.mk ((by rw [hg]; exact (below_size (bl_ HB.out)) : w.heap.size ≤ gb378)); replace HB := Aside0.mk (below_step (bl_ HB.out) hb); clear hb hbox hg; have hcz14_0 := cz_ BK378.out 0 (.int .i64 a1_0); have hcz14_1 := cz_ BK378.out 1 (.int .i64 a1_1); have hfz14_0 := blk_frozen BK378.out 0; have hfz14_1 := blk_frozen BK378.out 1) | ((with_reducible refine gate_callee (f := 43) rfl ?_); refine gl_ (some 9) Tryz.func43 #[.int .i64 a1_0, .int .i64 0, .int .i64 (wrap64 (a0 - 1))] rfl ?_; (with_reducible refine (impl_within.calls a1_0 0 (wrap64 (a0 - 1)) true _ A3.out).mono ?_); rintro e w' ⟨rfl, ⟨nd, rfl⟩⟩; refine ⟨_, rfl, ?_⟩) | (go_at_call 43; (with_reducible refine (impl_within.calls a1_1 0 (wrap64 (a0 - 1)) true _ A5.out).mono ?_); rintro e w' ⟨rfl, ⟨nd, rfl⟩⟩))
    go_ret
    exact ⟨by first | rfl | (simp [errW_none, errW_some] <;> rfl) | (simp [*, errW_none, errW_some] <;> rfl), bs_ HB.out GE378.out⟩
  ·replace c6 := Bool.eq_false_iff.mpr c6
   subst c6; rw [if_neg (show ¬ (false = true) by decide)] at H
   obtain rfl := Option.some.inj H
   go_enter Tryz.func87, Tryz.ntmps87
   go_wp2_with (first | ((with_reducible refine gate_dst (N := 3) rfl ?_); refine be_ #[.int .i64 a1_0, .int .i64 a1_1] 80 ?_; intro gb378 hg w15 hbox hb; have BK378 := Aside0.mk (hbox); have GW378 := Aside0.mk ((by rw [hg]; exact (below_size (bl_ HB.out)) : w.heap.size ≤ gb378)); have GE378 := Aside0.mk ((by rw [hg]; exact (below_size (bl_ HB.out)) : w.heap.size ≤ gb378)); replace HB := Aside0.mk (below_step (bl_ HB.out) hb); clear hb hbox hg; have hcz16_0 := cz_ BK378.out 0 (.int .i64 a1_0); have hcz16_1 := cz_ BK378.out 1 (.int .i64 a1_1); have hfz16_0 := blk_frozen BK378.out 0; have hfz16_1 := blk_frozen BK378.out 1) | ((with_reducible refine gate_callee (f := 43) rfl ?_); refine gl_ (some 9) Tryz.func43 #[.int .i64 a1_0, .int .i64 0, .int .i64 (wrap64 (a0 - 1))] rfl ?_; (with_reducible refine (impl_within.calls a1_0 0 (wrap64 (a0 - 1)) true _ A3.out).mono ?_); rintro e w' ⟨rfl, ⟨nd, rfl⟩⟩; refine ⟨_, rfl, ?_⟩) | (go_at_call 43; (with_reducible refine (impl_within.calls a1_1 0 (wrap64 (a0 - 1)) false _ A5.out).mono ?_); rintro e w' ⟨rfl, ⟨nd, rfl⟩⟩))
   go_ret
   exact ⟨by first | rfl | (simp [errW_none, errW_some] <;> rfl) | (simp [*, errW_none, errW_some] <;> rfl), bs_ HB.out GE378.out⟩
 ·replace c4 := Bool.eq_false_iff.mpr c4
  subst c4; rw [if_neg (show ¬ (false = true) by decide)] at H
  obtain rfl := Option.some.inj H
  go_enter Tryz.func87, Tryz.ntmps87
  go_wp2_with (first | ((with_reducible refine gate_dst (N := 3) rfl ?_); refine be_ #[.int .i64 a1_0, .int .i64 a1_1] 80 ?_; intro gb378 hg w17 hbox hb; have BK378 := Aside0.mk (hbox); have GW378 := Aside0.mk ((by rw [hg]; exact (below_size (bl_ HB.out)) : w.heap.size ≤ gb378)); have GE378 := Aside0.mk ((by rw [hg]; exact (below_size (bl_ HB.out)) : w.heap.size ≤ gb378)); replace HB := Aside0.mk (below_step (bl_ HB.out) hb); clear hb hbox hg; have hcz18_0 := cz_ BK378.out 0 (.int .i64 a1_0); have hcz18_1 := cz_ BK378.out 1 (.int .i64 a1_1); have hfz18_0 := blk_frozen BK378.out 0; have hfz18_1 := blk_frozen BK378.out 1) | ((with_reducible refine gate_callee (f := 43) rfl ?_); refine gl_ (some 9) Tryz.func43 #[.int .i64 a1_0, .int .i64 0, .int .i64 (wrap64 (a0 - 1))] rfl ?_; (with_reducible refine (impl_within.calls a1_0 0 (wrap64 (a0 - 1)) false _ A3.out).mono ?_); rintro e w' ⟨rfl, ⟨nd, rfl⟩⟩; refine ⟨_, rfl, ?_⟩))
  go_ret
  exact ⟨by first | rfl | (simp [errW_none, errW_some] <;> rfl) | (simp [*, errW_none, errW_some] <;> rfl), bs_ HB.out GE378.out⟩
def impl_doCross.f (a0_0 : Int) (a0_1 : Int) (a1_0 : Int) (a1_1 : Int) : Option (Bool) := if a0_0 < a1_0 then (if a1_0 < a0_1 then (if a0_1 < a1_1 then (some true) else (if a1_0 < a0_0 then (if a0_0 < a1_1 then (some (decide (a1_1 < a0_1))) else (some false)) else (some false))) else (if a1_0 < a0_0 then (if a0_0 < a1_1 then (some (decide (a1_1 < a0_1))) else (some false)) else (some false))) else (if a1_0 < a0_0 then (if a0_0 < a1_1 then (some (decide (a1_1 < a0_1))) else (some false)) else (some false))
set_option maxHeartbeats 8000000 in
set_option maxRecDepth 100000 in
theorem impl_doCross.calls (a0_0 : Int) (a0_1 : Int) (a1_0 : Int) (a1_1 : Int) (r : Bool) (w : World) (h : impl_doCross.f a0_0 a0_1 a1_0 a1_1 = some r) :
  Calls Tryz.prog 90 #[.agg #[.int .i64 a0_0, .int .i64 a0_1], .agg #[.int .i64 a1_0, .int .i64 a1_1]] w fun e w' => e = .returned (.bool r) ∧ Below w.heap.size w w' := by
 have hu80 := Tryz.underlying80; have HB := Aside0.mk (Below.refl w.heap.size w); have H : (if a0_0 < a1_0 then (if a1_0 < a0_1 then (if a0_1 < a1_1 then (some true) else (if a1_0 < a0_0 then (if a0_0 < a1_1 then (some (decide (a1_1 < a0_1))) else (some false)) else (some false))) else (if a1_0 < a0_0 then (if a0_0 < a1_1 then (some (decide (a1_1 < a0_1))) else (some false)) else (some false))) else (if a1_0 < a0_0 then (if a0_0 < a1_1 then (some (decide (a1_1 < a0_1))) else (some false)) else (some false))) = some r := h
 clear h
 by_cases c3 : a0_0 < a1_0
 ·rw [if_pos c3] at H
  have c3b0 : decide (a0_0 < a1_0) = true := decide_eq_true c3; clear c3
  by_cases c4 : a1_0 < a0_1
  ·rw [if_pos c4] at H
   have c4b0 : decide (a1_0 < a0_1) = true := decide_eq_true c4; clear c4
   by_cases c5 : a0_1 < a1_1
   ·rw [if_pos c5] at H
    have c5b0 : decide (a0_1 < a1_1) = true := decide_eq_true c5; clear c5; obtain rfl := Option.some.inj H
    go_enter Tryz.func90, Tryz.ntmps90
    go_wp2_with (first | ((with_reducible refine gate_dst (N := 2) rfl ?_); refine be_ #[.int .i64 a0_0, .int .i64 a0_1] 80 ?_; intro gb381 hg w6 hbox hb; have BK381 := Aside0.mk (hbox); have GW381 := Aside0.mk ((by rw [hg]; exact (below_size (bl_ HB.out)) : w.heap.size ≤ gb381)); have GE381 := Aside0.mk ((by rw [hg]; exact (below_size (bl_ HB.out)) : w.heap.size ≤ gb381)); replace HB := Aside0.mk (below_step (bl_ HB.out) hb); clear hb hbox hg) | ((with_reducible refine gate_dst (N := 3) rfl ?_); refine be_ #[.int .i64 a1_0, .int .i64 a1_1] 80 ?_; intro gb382 hg w7 hbox hb; have BK382 := Aside0.mk (hbox); have GW382 := Aside0.mk ((by rw [hg]; exact (below_size (bs_ HB.out GE381.out)) : w.heap.size ≤ gb382)); have GE382 := Aside0.mk ((by rw [hg]; exact (below_size (bs_ HB.out GE381.out)) : w.heap.size ≤ gb382)); replace HB := Aside0.mk (below_step (bs_ HB.out GE381.out) hb); have NB381_382 := Aside0.mk ((by rw [hg]; exact Nat.ne_of_lt (blk_lt (g := gb381) (o := .cells #[.int .i64 a0_0, .int .i64 a0_1] 80 (0, 0)) (bk_ BK381.out)) : gb381 ≠ gb382)); have NB382_381 := Aside0.mk ((by rw [hg]; exact Nat.ne_of_gt (blk_lt (g := gb381) (o := .cells #[.int .i64 a0_0, .int .i64 a0_1] 80 (0, 0)) (bk_ BK381.out)) : gb382 ≠ gb381)); replace BK381 := Aside0.mk (blk_below (g := gb381) (o := .cells #[.int .i64 a0_0, .int .i64 a0_1] 80 (0, 0)) (bk_ BK381.out) hb); clear hb hbox hg; have hnb8 := NB381_382.out; have hnc8 := NB382_381.out; have hcz9_0 := cz_ BK381.out 0 (.int .i64 a0_0); have hcz9_1 := cz_ BK381.out 1 (.int .i64 a0_1); have hfz9_0 := blk_frozen BK381.out 0; have hfz9_1 := blk_frozen BK381.out 1; have hcz10_0 := cz_ BK382.out 0 (.int .i64 a1_0); have hcz10_1 := cz_ BK382.out 1 (.int .i64 a1_1); have hfz10_0 := blk_frozen BK382.out 0; have hfz10_1 := blk_frozen BK382.out 1))
    go_ret
    exact ⟨by first | rfl | (simp [errW_none, errW_some] <;> rfl) | (simp [*, errW_none, errW_some] <;> rfl), by repeat (first | (with_reducible first | exact HB.out | apply below_alloc | apply pw_below_drewN | apply below_drew1 | refine below_set ?_ GE381.out | refine below_set ?_ GE382.out) | exact HB.out)⟩
   ·rw [if_neg c5] at H
    have c5b0 : decide (a0_1 < a1_1) = false := decide_eq_false c5; clear c5
    by_cases c11 : a1_0 < a0_0
    ·rw [if_pos c11] at H
     have c11b0 : decide (a1_0 < a0_0) = true := decide_eq_true c11; clear c11
     by_cases c12 : a0_0 < a1_1
     ·rw [if_pos c12] at H
      have c12b0 : decide (a0_0 < a1_1) = true := decide_eq_true c12; clear c12; obtain rfl := Option.some.inj H
      go_enter Tryz.func90, Tryz.ntmps90
      go_wp2_with (first | ((with_reducible refine gate_dst (N := 2) rfl ?_); refine be_ #[.int .i64 a0_0, .int .i64 a0_1] 80 ?_; intro gb381 hg w13 hbox hb; have BK381 := Aside0.mk (hbox); have GW381 := Aside0.mk ((by rw [hg]; exact (below_size (bl_ HB.out)) : w.heap.size ≤ gb381)); have GE381 := Aside0.mk ((by rw [hg]; exact (below_size (bl_ HB.out)) : w.heap.size ≤ gb381)); replace HB := Aside0.mk (below_step (bl_ HB.out) hb); clear hb hbox hg) | ((with_reducible refine gate_dst (N := 3) rfl ?_); refine be_ #[.int .i64 a1_0, .int .i64 a1_1] 80 ?_; intro gb382 hg w14 hbox hb; have BK382 := Aside0.mk (hbox); have GW382 := Aside0.mk ((by rw [hg]; exact (below_size (bs_ HB.out GE381.out)) : w.heap.size ≤ gb382)); have GE382 := Aside0.mk ((by rw [hg]; exact (below_size (bs_ HB.out GE381.out)) : w.heap.size ≤ gb382)); replace HB := Aside0.mk (below_step (bs_ HB.out GE381.out) hb); have NB381_382 := Aside0.mk ((by rw [hg]; exact Nat.ne_of_lt (blk_lt (g := gb381) (o := .cells #[.int .i64 a0_0, .int .i64 a0_1] 80 (0, 0)) (bk_ BK381.out)) : gb381 ≠ gb382)); have NB382_381 := Aside0.mk ((by rw [hg]; exact Nat.ne_of_gt (blk_lt (g := gb381) (o := .cells #[.int .i64 a0_0, .int .i64 a0_1] 80 (0, 0)) (bk_ BK381.out)) : gb382 ≠ gb381)); replace BK381 := Aside0.mk (blk_below (g := gb381) (o := .cells #[.int .i64 a0_0, .int .i64 a0_1] 80 (0, 0)) (bk_ BK381.out) hb); clear hb hbox hg; have hnb15 := NB381_382.out; have hnc15 := NB382_381.out; have hcz16_0 := cz_ BK381.out 0 (.int .i64 a0_0); have hcz16_1 := cz_ BK381.out 1 (.int .i64 a0_1); have hfz16_0 := blk_frozen BK381.out 0; have hfz16_1 := blk_frozen BK381.out 1; have hcz17_0 := cz_ BK382.out 0 (.int .i64 a1_0); have hcz17_1 := cz_ BK382.out 1 (.int .i64 a1_1); have hfz17_0 := blk_frozen BK382.out 0; have hfz17_1 := blk_frozen BK382.out 1))
      go_ret
      exact ⟨by first | rfl | (simp [errW_none, errW_some] <;> rfl) | (simp [*, errW_none, errW_some] <;> rfl), by repeat (first | (with_reducible first | exact HB.out | apply below_alloc | apply pw_below_drewN | apply below_drew1 | refine below_set ?_ GE381.out | refine below_set ?_ GE382.out) | exact HB.out)⟩
     ·rw [if_neg c12] at H
      have c12b0 : decide (a0_0 < a1_1) = false := decide_eq_false c12; clear c12; obtain rfl := Option.some.inj H
      go_enter Tryz.func90, Tryz.ntmps90
      go_wp2_with (first | ((with_reducible refine gate_dst (N := 2) rfl ?_); refine be_ #[.int .i64 a0_0, .int .i64 a0_1] 80 ?_; intro gb381 hg w18 hbox hb; have BK381 := Aside0.mk (hbox); have GW381 := Aside0.mk ((by rw [hg]; exact (below_size (bl_ HB.out)) : w.heap.size ≤ gb381)); have GE381 := Aside0.mk ((by rw [hg]; exact (below_size (bl_ HB.out)) : w.heap.size ≤ gb381)); replace HB := Aside0.mk (below_step (bl_ HB.out) hb); clear hb hbox hg) | ((with_reducible refine gate_dst (N := 3) rfl ?_); refine be_ #[.int .i64 a1_0, .int .i64 a1_1] 80 ?_; intro gb382 hg w19 hbox hb; have BK382 := Aside0.mk (hbox); have GW382 := Aside0.mk ((by rw [hg]; exact (below_size (bs_ HB.out GE381.out)) : w.heap.size ≤ gb382)); have GE382 := Aside0.mk ((by rw [hg]; exact (below_size (bs_ HB.out GE381.out)) : w.heap.size ≤ gb382)); replace HB := Aside0.mk (below_step (bs_ HB.out GE381.out) hb); have NB381_382 := Aside0.mk ((by rw [hg]; exact Nat.ne_of_lt (blk_lt (g := gb381) (o := .cells #[.int .i64 a0_0, .int .i64 a0_1] 80 (0, 0)) (bk_ BK381.out)) : gb381 ≠ gb382)); have NB382_381 := Aside0.mk ((by rw [hg]; exact Nat.ne_of_gt (blk_lt (g := gb381) (o := .cells #[.int .i64 a0_0, .int .i64 a0_1] 80 (0, 0)) (bk_ BK381.out)) : gb382 ≠ gb381)); replace BK381 := Aside0.mk (blk_below (g := gb381) (o := .cells #[.int .i64 a0_0, .int .i64 a0_1] 80 (0, 0)) (bk_ BK381.out) hb); clear hb hbox hg; have hnb20 := NB381_382.out; have hnc20 := NB382_381.out; have hcz21_0 := cz_ BK381.out 0 (.int .i64 a0_0); have hcz21_1 := cz_ BK381.out 1 (.int .i64 a0_1); have hfz21_0 := blk_frozen BK381.out 0; have hfz21_1 := blk_frozen BK381.out 1; have hcz22_0 := cz_ BK382.out 0 (.int .i64 a1_0); have hcz22_1 := cz_ BK382.out 1 (.int .i64 a1_1); have hfz22_0 := blk_frozen BK382.out 0; have hfz22_1 := blk_frozen BK382.out 1))
      go_ret
      exact ⟨by first | rfl | (simp [errW_none, errW_some] <;> rfl) | (simp [*, errW_none, errW_some] <;> rfl), by repeat (first | (with_reducible first | exact HB.out | apply below_alloc | apply pw_below_drewN | apply below_drew1 | refine below_set ?_ GE381.out | refine below_set ?_ GE382.out) | exact HB.out)⟩
    ·rw [if_neg c11] at H
     have c11b0 : decide (a1_0 < a0_0) = false := decide_eq_false c11; clear c11; obtain rfl := Option.some.inj H
     go_enter Tryz.func90, Tryz.ntmps90
     go_wp2_with (first | ((with_reducible refine gate_dst (N := 2) rfl ?_); refine be_ #[.int .i64 a0_0, .int .i64 a0_1] 80 ?_; intro gb381 hg w23 hbox hb; have BK381 := Aside0.mk (hbox); have GW381 := Aside0.mk ((by rw [hg]; exact (below_size (bl_ HB.out)) : w.heap.size ≤ gb381)); have GE381 := Aside0.mk ((by rw [hg]; exact (below_size (bl_ HB.out)) : w.heap.size ≤ gb381)); replace HB := Aside0.mk (below_step (bl_ HB.out) hb); clear hb hbox hg) | ((with_reducible refine gate_dst (N := 3) rfl ?_); refine be_ #[.int .i64 a1_0, .int .i64 a1_1] 80 ?_; intro gb382 hg w24 hbox hb; have BK382 := Aside0.mk (hbox); have GW382 := Aside0.mk ((by rw [hg]; exact (below_size (bs_ HB.out GE381.out)) : w.heap.size ≤ gb382)); have GE382 := Aside0.mk ((by rw [hg]; exact (below_size (bs_ HB.out GE381.out)) : w.heap.size ≤ gb382)); replace HB := Aside0.mk (below_step (bs_ HB.out GE381.out) hb); have NB381_382 := Aside0.mk ((by rw [hg]; exact Nat.ne_of_lt (blk_lt (g := gb381) (o := .cells #[.int .i64 a0_0, .int .i64 a0_1] 80 (0, 0)) (bk_ BK381.out)) : gb381 ≠ gb382)); have NB382_381 := Aside0.mk ((by rw [hg]; exact Nat.ne_of_gt (blk_lt (g := gb381) (o := .cells #[.int .i64 a0_0, .int .i64 a0_1] 80 (0, 0)) (bk_ BK381.out)) : gb382 ≠ gb381)); replace BK381 := Aside0.mk (blk_below (g := gb381) (o := .cells #[.int .i64 a0_0, .int .i64 a0_1] 80 (0, 0)) (bk_ BK381.out) hb); clear hb hbox hg; have hnb25 := NB381_382.out; have hnc25 := NB382_381.out; have hcz26_0 := cz_ BK381.out 0 (.int .i64 a0_0); have hcz26_1 := cz_ BK381.out 1 (.int .i64 a0_1); have hfz26_0 := blk_frozen BK381.out 0; have hfz26_1 := blk_frozen BK381.out 1; have hcz27_0 := cz_ BK382.out 0 (.int .i64 a1_0); have hcz27_1 := cz_ BK382.out 1 (.int .i64 a1_1); have hfz27_0 := blk_frozen BK382.out 0; have hfz27_1 := blk_frozen BK382.out 1))
     go_ret
     exact ⟨by first | rfl | (simp [errW_none, errW_some] <;> rfl) | (simp [*, errW_none, errW_some] <;> rfl), by repeat (first | (with_reducible first | exact HB.out | apply below_alloc | apply pw_below_drewN | apply below_drew1 | refine below_set ?_ GE381.out | refine below_set ?_ GE382.out) | exact HB.out)⟩
  ·rw [if_neg c4] at H
   have c4b0 : decide (a1_0 < a0_1) = false := decide_eq_false c4; clear c4
   by_cases c28 : a1_0 < a0_0
   ·rw [if_pos c28] at H
    have c28b0 : decide (a1_0 < a0_0) = true := decide_eq_true c28; clear c28
    by_cases c29 : a0_0 < a1_1
    ·rw [if_pos c29] at H
     have c29b0 : decide (a0_0 < a1_1) = true := decide_eq_true c29; clear c29; obtain rfl := Option.some.inj H
     go_enter Tryz.func90, Tryz.ntmps90
     go_wp2_with (first | ((with_reducible refine gate_dst (N := 2) rfl ?_); refine be_ #[.int .i64 a0_0, .int .i64 a0_1] 80 ?_; intro gb381 hg w30 hbox hb; have BK381 := Aside0.mk (hbox); have GW381 := Aside0.mk ((by rw [hg]; exact (below_size (bl_ HB.out)) : w.heap.size ≤ gb381)); have GE381 := Aside0.mk ((by rw [hg]; exact (below_size (bl_ HB.out)) : w.heap.size ≤ gb381)); replace HB := Aside0.mk (below_step (bl_ HB.out) hb); clear hb hbox hg) | ((with_reducible refine gate_dst (N := 3) rfl ?_); refine be_ #[.int .i64 a1_0, .int .i64 a1_1] 80 ?_; intro gb382 hg w31 hbox hb; have BK382 := Aside0.mk (hbox); have GW382 := Aside0.mk ((by rw [hg]; exact (below_size (bs_ HB.out GE381.out)) : w.heap.size ≤ gb382)); have GE382 := Aside0.mk ((by rw [hg]; exact (below_size (bs_ HB.out GE381.out)) : w.heap.size ≤ gb382)); replace HB := Aside0.mk (below_step (bs_ HB.out GE381.out) hb); have NB381_382 := Aside0.mk ((by rw [hg]; exact Nat.ne_of_lt (blk_lt (g := gb381) (o := .cells #[.int .i64 a0_0, .int .i64 a0_1] 80 (0, 0)) (bk_ BK381.out)) : gb381 ≠ gb382)); have NB382_381 := Aside0.mk ((by rw [hg]; exact Nat.ne_of_gt (blk_lt (g := gb381) (o := .cells #[.int .i64 a0_0, .int .i64 a0_1] 80 (0, 0)) (bk_ BK381.out)) : gb382 ≠ gb381)); replace BK381 := Aside0.mk (blk_below (g := gb381) (o := .cells #[.int .i64 a0_0, .int .i64 a0_1] 80 (0, 0)) (bk_ BK381.out) hb); clear hb hbox hg; have hnb32 := NB381_382.out; have hnc32 := NB382_381.out; have hcz33_0 := cz_ BK381.out 0 (.int .i64 a0_0); have hcz33_1 := cz_ BK381.out 1 (.int .i64 a0_1); have hfz33_0 := blk_frozen BK381.out 0; have hfz33_1 := blk_frozen BK381.out 1; have hcz34_0 := cz_ BK382.out 0 (.int .i64 a1_0); have hcz34_1 := cz_ BK382.out 1 (.int .i64 a1_1); have hfz34_0 := blk_frozen BK382.out 0; have hfz34_1 := blk_frozen BK382.out 1))
     go_ret
     exact ⟨by first | rfl | (simp [errW_none, errW_some] <;> rfl) | (simp [*, errW_none, errW_some] <;> rfl), by repeat (first | (with_reducible first | exact HB.out | apply below_alloc | apply pw_below_drewN | apply below_drew1 | refine below_set ?_ GE381.out | refine below_set ?_ GE382.out) | exact HB.out)⟩
    ·rw [if_neg c29] at H
     have c29b0 : decide (a0_0 < a1_1) = false := decide_eq_false c29; clear c29; obtain rfl := Option.some.inj H
     go_enter Tryz.func90, Tryz.ntmps90
     go_wp2_with (first | ((with_reducible refine gate_dst (N := 2) rfl ?_); refine be_ #[.int .i64 a0_0, .int .i64 a0_1] 80 ?_; intro gb381 hg w35 hbox hb; have BK381 := Aside0.mk (hbox); have GW381 := Aside0.mk ((by rw [hg]; exact (below_size (bl_ HB.out)) : w.heap.size ≤ gb381)); have GE381 := Aside0.mk ((by rw [hg]; exact (below_size (bl_ HB.out)) : w.heap.size ≤ gb381)); replace HB := Aside0.mk (below_step (bl_ HB.out) hb); clear hb hbox hg) | ((with_reducible refine gate_dst (N := 3) rfl ?_); refine be_ #[.int .i64 a1_0, .int .i64 a1_1] 80 ?_; intro gb382 hg w36 hbox hb; have BK382 := Aside0.mk (hbox); have GW382 := Aside0.mk ((by rw [hg]; exact (below_size (bs_ HB.out GE381.out)) : w.heap.size ≤ gb382)); have GE382 := Aside0.mk ((by rw [hg]; exact (below_size (bs_ HB.out GE381.out)) : w.heap.size ≤ gb382)); replace HB := Aside0.mk (below_step (bs_ HB.out GE381.out) hb); have NB381_382 := Aside0.mk ((by rw [hg]; exact Nat.ne_of_lt (blk_lt (g := gb381) (o := .cells #[.int .i64 a0_0, .int .i64 a0_1] 80 (0, 0)) (bk_ BK381.out)) : gb381 ≠ gb382)); have NB382_381 := Aside0.mk ((by rw [hg]; exact Nat.ne_of_gt (blk_lt (g := gb381) (o := .cells #[.int .i64 a0_0, .int .i64 a0_1] 80 (0, 0)) (bk_ BK381.out)) : gb382 ≠ gb381)); replace BK381 := Aside0.mk (blk_below (g := gb381) (o := .cells #[.int .i64 a0_0, .int .i64 a0_1] 80 (0, 0)) (bk_ BK381.out) hb); clear hb hbox hg; have hnb37 := NB381_382.out; have hnc37 := NB382_381.out; have hcz38_0 := cz_ BK381.out 0 (.int .i64 a0_0); have hcz38_1 := cz_ BK381.out 1 (.int .i64 a0_1); have hfz38_0 := blk_frozen BK381.out 0; have hfz38_1 := blk_frozen BK381.out 1; have hcz39_0 := cz_ BK382.out 0 (.int .i64 a1_0); have hcz39_1 := cz_ BK382.out 1 (.int .i64 a1_1); have hfz39_0 := blk_frozen BK382.out 0; have hfz39_1 := blk_frozen BK382.out 1))
     go_ret
     exact ⟨by first | rfl | (simp [errW_none, errW_some] <;> rfl) | (simp [*, errW_none, errW_some] <;> rfl), by repeat (first | (with_reducible first | exact HB.out | apply below_alloc | apply pw_below_drewN | apply below_drew1 | refine below_set ?_ GE381.out | refine below_set ?_ GE382.out) | exact HB.out)⟩
   ·rw [if_neg c28] at H
    have c28b0 : decide (a1_0 < a0_0) = false := decide_eq_false c28; clear c28; obtain rfl := Option.some.inj H
    go_enter Tryz.func90, Tryz.ntmps90
    go_wp2_with (first | ((with_reducible refine gate_dst (N := 2) rfl ?_); refine be_ #[.int .i64 a0_0, .int .i64 a0_1] 80 ?_; intro gb381 hg w40 hbox hb; have BK381 := Aside0.mk (hbox); have GW381 := Aside0.mk ((by rw [hg]; exact (below_size (bl_ HB.out)) : w.heap.size ≤ gb381)); have GE381 := Aside0.mk ((by rw [hg]; exact (below_size (bl_ HB.out)) : w.heap.size ≤ gb381)); replace HB := Aside0.mk (below_step (bl_ HB.out) hb); clear hb hbox hg) | ((with_reducible refine gate_dst (N := 3) rfl ?_); refine be_ #[.int .i64 a1_0, .int .i64 a1_1] 80 ?_; intro gb382 hg w41 hbox hb; have BK382 := Aside0.mk (hbox); have GW382 := Aside0.mk ((by rw [hg]; exact (below_size (bs_ HB.out GE381.out)) : w.heap.size ≤ gb382)); have GE382 := Aside0.mk ((by rw [hg]; exact (below_size (bs_ HB.out GE381.out)) : w.heap.size ≤ gb382)); replace HB := Aside0.mk (below_step (bs_ HB.out GE381.out) hb); have NB381_382 := Aside0.mk ((by rw [hg]; exact Nat.ne_of_lt (blk_lt (g := gb381) (o := .cells #[.int .i64 a0_0, .int .i64 a0_1] 80 (0, 0)) (bk_ BK381.out)) : gb381 ≠ gb382)); have NB382_381 := Aside0.mk ((by rw [hg]; exact Nat.ne_of_gt (blk_lt (g := gb381) (o := .cells #[.int .i64 a0_0, .int .i64 a0_1] 80 (0, 0)) (bk_ BK381.out)) : gb382 ≠ gb381)); replace BK381 := Aside0.mk (blk_below (g := gb381) (o := .cells #[.int .i64 a0_0, .int .i64 a0_1] 80 (0, 0)) (bk_ BK381.out) hb); clear hb hbox hg; have hnb42 := NB381_382.out; have hnc42 := NB382_381.out; have hcz43_0 := cz_ BK381.out 0 (.int .i64 a0_0); have hcz43_1 := cz_ BK381.out 1 (.int .i64 a0_1); have hfz43_0 := blk_frozen BK381.out 0; have hfz43_1 := blk_frozen BK381.out 1; have hcz44_0 := cz_ BK382.out 0 (.int .i64 a1_0); have hcz44_1 := cz_ BK382.out 1 (.int .i64 a1_1); have hfz44_0 := blk_frozen BK382.out 0; have hfz44_1 := blk_frozen BK382.out 1))
    go_ret
    exact ⟨by first | rfl | (simp [errW_none, errW_some] <;> rfl) | (simp [*, errW_none, errW_some] <;> rfl), by repeat (first | (with_reducible first | exact HB.out | apply below_alloc | apply pw_below_drewN | apply below_drew1 | refine below_set ?_ GE381.out | refine below_set ?_ GE382.out) | exact HB.out)⟩
 ·rw [if_neg c3] at H
  have c3b0 : decide (a0_0 < a1_0) = false := decide_eq_false c3; clear c3
  by_cases c45 : a1_0 < a0_0
  ·rw [if_pos c45] at H
   have c45b0 : decide (a1_0 < a0_0) = true := decide_eq_true c45; clear c45
   by_cases c46 : a0_0 < a1_1
   ·rw [if_pos c46] at H
    have c46b0 : decide (a0_0 < a1_1) = true := decide_eq_true c46; clear c46; obtain rfl := Option.some.inj H
    go_enter Tryz.func90, Tryz.ntmps90
    go_wp2_with (first | ((with_reducible refine gate_dst (N := 2) rfl ?_); refine be_ #[.int .i64 a0_0, .int .i64 a0_1] 80 ?_; intro gb381 hg w47 hbox hb; have BK381 := Aside0.mk (hbox); have GW381 := Aside0.mk ((by rw [hg]; exact (below_size (bl_ HB.out)) : w.heap.size ≤ gb381)); have GE381 := Aside0.mk ((by rw [hg]; exact (below_size (bl_ HB.out)) : w.heap.size ≤ gb381)); replace HB := Aside0.mk (below_step (bl_ HB.out) hb); clear hb hbox hg) | ((with_reducible refine gate_dst (N := 3) rfl ?_); refine be_ #[.int .i64 a1_0, .int .i64 a1_1] 80 ?_; intro gb382 hg w48 hbox hb; have BK382 := Aside0.mk (hbox); have GW382 := Aside0.mk ((by rw [hg]; exact (below_size (bs_ HB.out GE381.out)) : w.heap.size ≤ gb382)); have GE382 := Aside0.mk ((by rw [hg]; exact (below_size (bs_ HB.out GE381.out)) : w.heap.size ≤ gb382)); replace HB := Aside0.mk (below_step (bs_ HB.out GE381.out) hb); have NB381_382 := Aside0.mk ((by rw [hg]; exact Nat.ne_of_lt (blk_lt (g := gb381) (o := .cells #[.int .i64 a0_0, .int .i64 a0_1] 80 (0, 0)) (bk_ BK381.out)) : gb381 ≠ gb382)); have NB382_381 := Aside0.mk ((by rw [hg]; exact Nat.ne_of_gt (blk_lt (g := gb381) (o := .cells #[.int .i64 a0_0, .int .i64 a0_1] 80 (0, 0)) (bk_ BK381.out)) : gb382 ≠ gb381)); replace BK381 := Aside0.mk (blk_below (g := gb381) (o := .cells #[.int .i64 a0_0, .int .i64 a0_1] 80 (0, 0)) (bk_ BK381.out) hb); clear hb hbox hg; have hnb49 := NB381_382.out; have hnc49 := NB382_381.out; have hcz50_0 := cz_ BK381.out 0 (.int .i64 a0_0); have hcz50_1 := cz_ BK381.out 1 (.int .i64 a0_1); have hfz50_0 := blk_frozen BK381.out 0; have hfz50_1 := blk_frozen BK381.out 1; have hcz51_0 := cz_ BK382.out 0 (.int .i64 a1_0); have hcz51_1 := cz_ BK382.out 1 (.int .i64 a1_1); have hfz51_0 := blk_frozen BK382.out 0; have hfz51_1 := blk_frozen BK382.out 1))
    go_ret
    exact ⟨by first | rfl | (simp [errW_none, errW_some] <;> rfl) | (simp [*, errW_none, errW_some] <;> rfl), by repeat (first | (with_reducible first | exact HB.out | apply below_alloc | apply pw_below_drewN | apply below_drew1 | refine below_set ?_ GE381.out | refine below_set ?_ GE382.out) | exact HB.out)⟩
   ·rw [if_neg c46] at H
    have c46b0 : decide (a0_0 < a1_1) = false := decide_eq_false c46; clear c46; obtain rfl := Option.some.inj H
    go_enter Tryz.func90, Tryz.ntmps90
    go_wp2_with (first | ((with_reducible refine gate_dst (N := 2) rfl ?_); refine be_ #[.int .i64 a0_0, .int .i64 a0_1] 80 ?_; intro gb381 hg w52 hbox hb; have BK381 := Aside0.mk (hbox); have GW381 := Aside0.mk ((by rw [hg]; exact (below_size (bl_ HB.out)) : w.heap.size ≤ gb381)); have GE381 := Aside0.mk ((by rw [hg]; exact (below_size (bl_ HB.out)) : w.heap.size ≤ gb381)); replace HB := Aside0.mk (below_step (bl_ HB.out) hb); clear hb hbox hg) | ((with_reducible refine gate_dst (N := 3) rfl ?_); refine be_ #[.int .i64 a1_0, .int .i64 a1_1] 80 ?_; intro gb382 hg w53 hbox hb; have BK382 := Aside0.mk (hbox); have GW382 := Aside0.mk ((by rw [hg]; exact (below_size (bs_ HB.out GE381.out)) : w.heap.size ≤ gb382)); have GE382 := Aside0.mk ((by rw [hg]; exact (below_size (bs_ HB.out GE381.out)) : w.heap.size ≤ gb382)); replace HB := Aside0.mk (below_step (bs_ HB.out GE381.out) hb); have NB381_382 := Aside0.mk ((by rw [hg]; exact Nat.ne_of_lt (blk_lt (g := gb381) (o := .cells #[.int .i64 a0_0, .int .i64 a0_1] 80 (0, 0)) (bk_ BK381.out)) : gb381 ≠ gb382)); have NB382_381 := Aside0.mk ((by rw [hg]; exact Nat.ne_of_gt (blk_lt (g := gb381) (o := .cells #[.int .i64 a0_0, .int .i64 a0_1] 80 (0, 0)) (bk_ BK381.out)) : gb382 ≠ gb381)); replace BK381 := Aside0.mk (blk_below (g := gb381) (o := .cells #[.int .i64 a0_0, .int .i64 a0_1] 80 (0, 0)) (bk_ BK381.out) hb); clear hb hbox hg; have hnb54 := NB381_382.out; have hnc54 := NB382_381.out; have hcz55_0 := cz_ BK381.out 0 (.int .i64 a0_0); have hcz55_1 := cz_ BK381.out 1 (.int .i64 a0_1); have hfz55_0 := blk_frozen BK381.out 0; have hfz55_1 := blk_frozen BK381.out 1; have hcz56_0 := cz_ BK382.out 0 (.int .i64 a1_0); have hcz56_1 := cz_ BK382.out 1 (.int .i64 a1_1); have hfz56_0 := blk_frozen BK382.out 0; have hfz56_1 := blk_frozen BK382.out 1))
    go_ret
    exact ⟨by first | rfl | (simp [errW_none, errW_some] <;> rfl) | (simp [*, errW_none, errW_some] <;> rfl), by repeat (first | (with_reducible first | exact HB.out | apply below_alloc | apply pw_below_drewN | apply below_drew1 | refine below_set ?_ GE381.out | refine below_set ?_ GE382.out) | exact HB.out)⟩
  ·rw [if_neg c45] at H
   have c45b0 : decide (a1_0 < a0_0) = false := decide_eq_false c45; clear c45; obtain rfl := Option.some.inj H
   go_enter Tryz.func90, Tryz.ntmps90
   go_wp2_with (first | ((with_reducible refine gate_dst (N := 2) rfl ?_); refine be_ #[.int .i64 a0_0, .int .i64 a0_1] 80 ?_; intro gb381 hg w57 hbox hb; have BK381 := Aside0.mk (hbox); have GW381 := Aside0.mk ((by rw [hg]; exact (below_size (bl_ HB.out)) : w.heap.size ≤ gb381)); have GE381 := Aside0.mk ((by rw [hg]; exact (below_size (bl_ HB.out)) : w.heap.size ≤ gb381)); replace HB := Aside0.mk (below_step (bl_ HB.out) hb); clear hb hbox hg) | ((with_reducible refine gate_dst (N := 3) rfl ?_); refine be_ #[.int .i64 a1_0, .int .i64 a1_1] 80 ?_; intro gb382 hg w58 hbox hb; have BK382 := Aside0.mk (hbox); have GW382 := Aside0.mk ((by rw [hg]; exact (below_size (bs_ HB.out GE381.out)) : w.heap.size ≤ gb382)); have GE382 := Aside0.mk ((by rw [hg]; exact (below_size (bs_ HB.out GE381.out)) : w.heap.size ≤ gb382)); replace HB := Aside0.mk (below_step (bs_ HB.out GE381.out) hb); have NB381_382 := Aside0.mk ((by rw [hg]; exact Nat.ne_of_lt (blk_lt (g := gb381) (o := .cells #[.int .i64 a0_0, .int .i64 a0_1] 80 (0, 0)) (bk_ BK381.out)) : gb381 ≠ gb382)); have NB382_381 := Aside0.mk ((by rw [hg]; exact Nat.ne_of_gt (blk_lt (g := gb381) (o := .cells #[.int .i64 a0_0, .int .i64 a0_1] 80 (0, 0)) (bk_ BK381.out)) : gb382 ≠ gb381)); replace BK381 := Aside0.mk (blk_below (g := gb381) (o := .cells #[.int .i64 a0_0, .int .i64 a0_1] 80 (0, 0)) (bk_ BK381.out) hb); clear hb hbox hg; have hnb59 := NB381_382.out; have hnc59 := NB382_381.out; have hcz60_0 := cz_ BK381.out 0 (.int .i64 a0_0); have hcz60_1 := cz_ BK381.out 1 (.int .i64 a0_1); have hfz60_0 := blk_frozen BK381.out 0; have hfz60_1 := blk_frozen BK381.out 1; have hcz61_0 := cz_ BK382.out 0 (.int .i64 a1_0); have hcz61_1 := cz_ BK382.out 1 (.int .i64 a1_1); have hfz61_0 := blk_frozen BK382.out 0; have hfz61_1 := blk_frozen BK382.out 1))
   go_ret
   exact ⟨by first | rfl | (simp [errW_none, errW_some] <;> rfl) | (simp [*, errW_none, errW_some] <;> rfl), by repeat (first | (with_reducible first | exact HB.out | apply below_alloc | apply pw_below_drewN | apply below_drew1 | refine below_set ?_ GE381.out | refine below_set ?_ GE382.out) | exact HB.out)⟩
def impl_Diagonal__at_impl_IsTriangulation_1.x (d0 d1 e0 e1 : Int) : Bool := (decide (d0 < e0) && decide (e0 < d1) && decide (d1 < e1)) || (decide (e0 < d0) && decide (d0 < e1) && decide (e1 < d1))
theorem impl_Diagonal__at_impl_IsTriangulation_1.xf (d0 d1 e0 e1 : Int) : impl_doCross.f d0 d1 e0 e1 = some (impl_Diagonal__at_impl_IsTriangulation_1.x d0 d1 e0 e1) := by
 unfold impl_doCross.f impl_Diagonal__at_impl_IsTriangulation_1.x
 by_cases h1 : d0 < e0 <;> by_cases h2 : e0 < d1 <;> by_cases h3 : d1 < e1 <;> by_cases h4 : e0 < d0 <;> by_cases h5 : d0 < e1 <;> by_cases h6 : e1 < d1 <;> simp [h1, h2, h3, h4, h5, h6]
def impl_Diagonal__at_impl_IsTriangulation_1.f (l0 : List (S80)) (d0 : Int) (d1 : Int) : Option Bool := if l0.length ≤ 1048576 then some (l0.any fun e => impl_Diagonal__at_impl_IsTriangulation_1.x d0 d1 e.f0 e.f1) else none
set_option maxHeartbeats 4000000 in
set_option maxRecDepth 100000 in
theorem impl_Diagonal__at_impl_IsTriangulation_1.clo (g : Nat) (d0 d1 e0 e1 : Int) (w : World) (hg : w.heap[g]? = some (.cells #[.int .i64 d0, .int .i64 d1] 80 (0, 0))) :
  Calls Tryz.prog 89 #[.agg #[.int .i64 e0, .int .i64 e1], .pointer (some ⟨g, 0, none⟩)] w fun e w' => e = .returned (.bool (impl_Diagonal__at_impl_IsTriangulation_1.x d0 d1 e0 e1)) ∧ Below w.heap.size w w' := by
 have hu := Tryz.underlying80; have HB := Aside0.mk (Below.refl w.heap.size w); have hc0 : w.cell? ⟨g, 0, none⟩ = some (.int .i64 d0) := (blk_cell hg 0).trans rfl; have hc1 : w.cell? ⟨g, 1, none⟩ = some (.int .i64 d1) := (blk_cell hg 1).trans rfl
 go_enter Tryz.func89, Tryz.ntmps89
 go_wp2_with (first | ((with_reducible refine gate_dst (N := 2) rfl ?_); refine be_ #[.int .i64 e0, .int .i64 e1] 80 ?_; intro gb hgb w9 hbox hb; have HB9 := Aside0.mk hb; have hcz0 : w9.cell? ⟨gb, 0, none⟩ = some (.int .i64 e0) := (blk_cell hbox 0).trans rfl; have hcz1 : w9.cell? ⟨gb, 1, none⟩ = some (.int .i64 e1) := (blk_cell hbox 1).trans rfl; have hd0 := (hb.cell (World.block_lt_of_cell? w _ hc0)).trans hc0; have hd1 := (hb.cell (World.block_lt_of_cell? w _ hc1)).trans hc1; clear hgb hbox hb) | ((with_reducible refine gate_callee (f := 90) rfl ?_); refine goesL_ (some 6) rfl rfl Tryz.func90 (by kernel_rfl) rfl #[.agg #[.int .i64 d0, .int .i64 d1], .agg #[.int .i64 e0, .int .i64 e1]] rfl (by (try simp only [List.map_toArray, List.map_cons, List.map_nil]); first | done | rfl) ?_; (with_reducible refine (impl_doCross.calls d0 d1 e0 e1 _ _ (impl_Diagonal__at_impl_IsTriangulation_1.xf d0 d1 e0 e1)).mono ?_); rintro e w10 ⟨rfl, hb2⟩; have HB10 := Aside0.mk hb2; refine ⟨_, rfl, ?_⟩))
 go_ret
 exact ⟨rfl, below_step HB9.out HB10.out⟩
set_option maxHeartbeats 4000000 in
set_option maxRecDepth 100000 in
theorem impl_Diagonal__at_impl_IsTriangulation_1.idx (A0 : Option Addr) (c0 : Nat) (l0 : List (S80)) (g : Nat) (d0 : Int) (d1 : Int) (w : World) (hr0 : Kd.C k80 w A0 l0.length l0) (hc0 : l0.length ≤ c0) (hl : l0.length ≤ 1048576) (hg : w.heap[g]? = some (.cells #[.int .i64 d0, .int .i64 d1] 80 (0, 0))) :
  Calls Tryz.prog 102 #[.slice A0 l0.length c0, .func (.func 89) #[] #[.pointer (some ⟨g, 0, none⟩)]] w fun e w' => (∃ i : Int, e = .returned (.int .i64 i) ∧ (0 ≤ i ↔ (l0.any fun e => impl_Diagonal__at_impl_IsTriangulation_1.x d0 d1 e.f0 e.f1) = true)) ∧ Below w.heap.size w w' := by
 have hu := Tryz.underlying80; have HR0 := Aside0.mk hr0; have HC0 := Aside0.mk hc0; have HG := Aside0.mk hg; clear hr0 hc0 hg; have HB := Aside0.mk (Below.refl w.heap.size w)
 have HL : ∀ x : Int, 0 ≤ x → x < (l0.length : Int) → (l0.take (x.toNat + 1)).any (fun e => impl_Diagonal__at_impl_IsTriangulation_1.x d0 d1 e.f0 e.f1) = ((l0.take x.toNat).any (fun e => impl_Diagonal__at_impl_IsTriangulation_1.x d0 d1 e.f0 e.f1) || impl_Diagonal__at_impl_IsTriangulation_1.x d0 d1 (rd_T80 l0 x).f0 (rd_T80 l0 x).f1) := by
  intro x hx0 hx
  have h1 : l0[x.toNat]? = some (rd_T80 l0 x) := by
   have : x.toNat < l0.length := by omega
   simp [rd_T80, this]
  rw [List.take_add_one, h1, List.any_append]
  simp
 go_enter Tryz.func102, Tryz.ntmps102
 go_wp2
 go_loopg [8] (l0.length + 1) (fun kq v8 w' => ∃ (x : Int), v8 = .int .i64 x ∧ Aside0 (0 ≤ x ∧ (kq : Int) + x = l0.length + 1) ∧ Aside0 ((l0.take x.toNat).any (fun e => impl_Diagonal__at_impl_IsTriangulation_1.x d0 d1 e.f0 e.f1) = false) ∧ Aside0 (Below w.heap.size w w'))
 case atStart => exact ⟨0, rfl, ⟨by omega⟩, ⟨by simp⟩, HB⟩
 case round =>
  clear HB; obtain ⟨x, rfl, HK, HN, HB⟩ := hrel
  by_cases c4 : x < (l0.length : Int)
  ·have c4b0 : decide (x < (l0.length : Int)) = true := decide_eq_true c4
   have p1 : 0 ≤ x := HK.out.1; obtain ⟨ad, e1, hx0, hx1⟩ := at_T80 HR0.out x p1 c4
   cases e1
   replace hx0 := (HB.out.cell (World.block_lt_of_cell? w _ hx0)).trans hx0; replace hx1 := (HB.out.cell (World.block_lt_of_cell? w _ hx1)).trans hx1; have h3 := HL x p1 c4; have h4 : wrap64 (x + 1) = x + 1 := by simp only [wrap64]; omega
   replace p1 := eq_true p1; have q1 := eq_true c4
   cases hP : impl_Diagonal__at_impl_IsTriangulation_1.x d0 d1 (rd_T80 l0 x).f0 (rd_T80 l0 x).f1 with
   | true =>
    go_wp2_with (go_at_call 89; refine (impl_Diagonal__at_impl_IsTriangulation_1.clo g d0 d1 _ _ _ (blk_below HG.out HB.out)).mono ?_; rw [hP]; rintro e w10 ⟨rfl, hb2⟩; have HB10 := Aside0.mk (below_step HB.out hb2))
    go_ret
    exact ⟨⟨_, rfl, ⟨fun _ => by rw [← List.take_append_drop (x.toNat + 1) l0, List.any_append, h3, hP]; simp, fun _ => HK.out.1⟩⟩, HB10.out⟩
   | false =>
    go_wp2_with (go_at_call 89; refine (impl_Diagonal__at_impl_IsTriangulation_1.clo g d0 d1 _ _ _ (blk_below HG.out HB.out)).mono ?_; rw [hP]; rintro e w10 ⟨rfl, hb2⟩; have HB10 := Aside0.mk (below_step HB.out hb2))
    go_roundg (gk - 1)
    case measure => have := HK.out; omega
    case rel => exact ⟨x + 1, by first | rfl | (simp only [i64_w, h4]; done) | (simp [h4]; done), ⟨by have := HK.out; omega⟩, ⟨by rw [show (x + 1).toNat = x.toNat + 1 by have := HK.out; omega, h3, HN.out, hP]; rfl⟩, HB10⟩
  ·have c4b0 : decide (x < (l0.length : Int)) = false := decide_eq_false c4
   go_wp2
   go_ret
   have h2 := HN.out; rw [List.take_of_length_le (by omega)] at h2
   exact ⟨⟨-1, rfl, Iff.intro (fun h => absurd h (by decide)) (fun h => by rw [List.any_eq_true.mpr h] at h2; cases h2)⟩, HB.out⟩
set_option maxHeartbeats 4000000 in
set_option maxRecDepth 100000 in
theorem impl_Diagonal__at_impl_IsTriangulation_1.calls (A0 : Option Addr) (c0 : Nat) (l0 : List (S80)) (g : Nat) (d0 : Int) (d1 : Int) (r : Bool) (w : World) (hr0 : Kd.C k80 w A0 l0.length l0) (hc0 : l0.length ≤ c0) (hg : w.heap[g]? = some (.cells #[.int .i64 d0, .int .i64 d1] 80 (0, 0))) (h : impl_Diagonal__at_impl_IsTriangulation_1.f l0 d0 d1 = some r) :
  Calls Tryz.prog 88 #[.slice A0 l0.length c0, .func (.func 89) #[] #[.pointer (some ⟨g, 0, none⟩)]] w fun e w' => e = .returned (.bool r) ∧ Below w.heap.size w w' := by
 unfold impl_Diagonal__at_impl_IsTriangulation_1.f at h
 split at h
 case isFalse => cases h
 rename_i hl
 obtain rfl := Option.some.inj h
 go_enter Tryz.func88, Tryz.ntmps88
 go_wp2_with (go_at_call 102; refine (impl_Diagonal__at_impl_IsTriangulation_1.idx A0 c0 l0 g d0 d1 _ hr0 hc0 hl hg).mono ?_; rintro e w10 ⟨⟨i, rfl, hi0⟩, hb2⟩; have HI := Aside0.mk hi0; clear hi0; have HB10 := Aside0.mk hb2)
 go_ret
 have hi1 := HI.out; have h9 : decide (0 ≤ i) = (l0.any fun e => impl_Diagonal__at_impl_IsTriangulation_1.x d0 d1 e.f0 e.f1) := by rw [Bool.eq_iff_iff, decide_eq_true_iff]; exact hi1
 exact ⟨by rw [← h9]; rfl, HB10.out⟩
end Go.Proofs.YtcfcnnnkpdhecaaGreat.PFnContinuantsSplit
