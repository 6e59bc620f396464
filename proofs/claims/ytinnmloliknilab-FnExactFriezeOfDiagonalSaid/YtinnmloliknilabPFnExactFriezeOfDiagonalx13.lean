-- Written for this claim by a program of this session (wip/tools/xprint.py over the kit's printer, wip/tools/shrink.py).
import Derived.Test.YtinnmloliknilabPFnExactFriezeOfDiagonalx0
import Derived.Test.YtinnmloliknilabPFnExactFriezeOfDiagonalx6
import Derived.Test.YtinnmloliknilabPFnExactFriezeOfDiagonalx12
namespace Go.Proofs.Ytinnmloliknilab.PFnExactFriezeOfDiagonal
open Go.RowKit Go.Proofs.YtinnmloliknilabW.PrintWords Go.Proofs.YtinnmloliknilabW.PrintLast Go.Proofs.YtinnmloliknilabW.PrintMore
attribute [local go_sem] max2_int min2_int max_two min_two max_three min_three max_four min_four   -- for this text's walks alone
set_option linter.unusedVariables false
set_option linter.unusedSimpArgs false
def impl_IsQuiddity.f (k : Nat) (l0 : List Int) : Option (Bool) := (impl_triangulation.f k l0).bind fun bt369 => (some bt369.2)
set_option maxHeartbeats 8000000 in
set_option maxRecDepth 100000 in
theorem impl_IsQuiddity.calls (k : Nat) (A0 : Option Addr) (c0 : Nat) (l0 : List Int) (r : Bool) (w : World) (hr0 : Kd.C (Kd.int .i64) w A0 l0.length l0) (hc0 : l0.length ≤ c0) (h : impl_IsQuiddity.f k l0 = some r) :
  Calls Try.prog 56 #[.slice A0 l0.length c0] w fun e w' => e = .returned (.bool r) ∧ Below w.heap.size w w' := by
 have HR0 := Aside0.mk hr0; have HC0 := Aside0.mk hc0; clear hr0 hc0; have HB := Aside0.mk (Below.refl w.heap.size w); have H : ((impl_triangulation.f k l0).bind fun bt369 => (some bt369.2)) = some r := h
 clear h; replace H := Option.bind_eq_some_iff.mp H; obtain ⟨⟨t369, t370⟩, A20, H⟩ := H; replace H : (some t370) = some r := H; have A2 := Aside0.mk A20; clear A20; obtain rfl := Option.some.inj H
 go_enter Try.func56, Try.ntmps56
 go_wp2_with (first | ((with_reducible refine gate_callee (f := 75) rfl ?_); refine goesL_ (some 7) rfl rfl Try.func75 (by kernel_rfl) rfl #[.slice A0 l0.length c0] rfl (by (try simp only [List.map_toArray, List.map_cons, List.map_nil]); first | done | rfl | (simp only [List.length_drop, List.length_take]; rfl)) ?_; (with_reducible refine (impl_triangulation.calls k _ _ l0 t369 t370 _ ?side1 ?side2 A2.out).mono ?_); (case side1 => repeat (first | exact HR0.out | (with_reducible refine Kd.C_alloc ?_ _) | (with_reducible refine Kd.C_drewN ?_ _) | (with_reducible refine Kd.C_drew ?_))); (case side2 => exact HC0.out); rintro e w3 ⟨v371, rfl, ho0, hb⟩; refine ⟨_, rfl, ?_⟩; have n0_ := Aside0.mk (Kd.R_lower ho0 (below_size (bl_ HB.out))); have n1_ := Aside0.mk (below_step (bl_ HB.out) hb); clear HB; have HO372 := n0_; have HB := n1_; clear n0_ n1_; (try clear hb); (try clear hb2); (try clear hk); (try clear hi); (try clear ho0)))
 go_ret
 exact ⟨by first | rfl | (simp [errW_none, errW_some] <;> rfl) | (simp [*, errW_none, errW_some] <;> rfl), bl_ HB.out⟩
def impl_modulo.f (a0 : Int) (a1 : Int) : Option (Int) := if a1 = 0 then (none) else (some (Int.tmod (wrap64 ((Int.tmod a0 a1) + a1)) a1))
set_option maxHeartbeats 8000000 in
set_option maxRecDepth 100000 in
theorem impl_modulo.calls (a0 : Int) (a1 : Int) (r : Int) (w : World) (h : impl_modulo.f a0 a1 = some r) :
  Calls Try.prog 76 #[.int .i64 a0, .int .i64 a1] w fun e w' => e = .returned (.int .i64 r) ∧ Drawn0 w w' := by
 have H : (if a1 = 0 then (none) else (some (Int.tmod (wrap64 ((Int.tmod a0 a1) + a1)) a1))) = some r := h
 clear h
 by_cases c3 : a1 = 0
 ·rw [if_pos c3] at H
  exact absurd H (by simp)
 ·rw [if_neg c3] at H
  have c3b0 : (a1 == 0) = false := beq_eq_false_iff_ne.mpr c3; have c3b1 : (a1 != 0) = true := bne_iff_ne.mpr c3; obtain rfl := Option.some.inj H
  go_enter Try.func76, Try.ntmps76
  go_wp2
  go_ret
  exact ⟨fs_, dr_⟩
def impl_entries.l0 : Nat → List Int → Int → Int → List Int → Int → Option (List Int)
 | 0, _, _, _, _, _ => none
 | k + 1, x0, x1, x5, x6, x7 => if x7 < x5 then ((impl_modulo.f (wrap64 (x1 + x7)) x5).bind fun t376 => (if 0 ≤ t376 then (if t376 < (x0.length : Int) then (if 0 ≤ x7 then (if x7 < (x6.length : Int) then (if 0 ≤ (wrap64 (x7 - 1)) then (if (wrap64 (x7 - 1)) < (x6.length : Int) then (if x6.length < 17592186044416 then (impl_entries.l0 k x0 x1 x5 (x6 ++ [wrap64 ((wrap64 ((rd x0 t376) * (rd x6 x7))) - (rd x6 (wrap64 (x7 - 1))))]) (wrap64 (x7 + 1))) else (none)) else (none)) else (none)) else (none)) else (none)) else (none)) else (none))) else (some x6)
def impl_entries.f (k : Nat) (l0 : List Int) (a1 : Int) : Option (List Int) := impl_entries.l0 k l0 a1 (l0.length : Int) (([0, 1] : List Int)) 1
def impl_entries.T5 : Bool × List (List Nat × List Nat) := (true, [([], []), ([], []), ([], []), ([], []), ([2, 3], [2, 3]), ([], []), ([4, 5], [4, 5]), ([1, 6], [1, 6]), ([7], [7]), ([], []), ([], []), ([9, 10], [9, 10]), ([11], [11]), ([8, 12], [8, 12]), ([], []), ([], []), ([15], [15]), ([14, 16], [14, 16]), ([17], [17]), ([13, 18], [13, 18]), ([19], [19]), ([0, 20, 6], [0, 20]), ([21, 21, 0, 1, 2, 3, 4, 5, 6, 7, 8, 9, 10, 11, 12, 13, 14, 15, 16, 17, 18, 19, 20, 21], [0, 9, 14, 21])])
def impl_entries.B5 : List Nat := [0, 0, 0, 0, 12, 0, 60, 126, 254, 0, 0, 1536, 3584, 8190, 0, 0, 32768, 114688, 245760, 524286, 1048574, 2097151, 4194303]
theorem impl_entries.tab5 : rtab .any (opsOf Try.f58 5) = impl_entries.T5 := by kernel_rfl
theorem impl_entries.bits5 : waitsOk impl_entries.T5.2 impl_entries.B5 = true := by kernel_rfl
set_option maxHeartbeats 8000000 in
set_option maxRecDepth 100000 in
theorem impl_entries.calls (k : Nat) (A0 : Option Addr) (c0 : Nat) (l0 : List Int) (a1 : Int) (r : List Int) (w : World) (hr0 : Kd.C (Kd.int .i64) w A0 l0.length l0) (hc0 : l0.length ≤ c0) (h : impl_entries.f k l0 a1 = some r) :
  Calls Try.prog 58 #[.slice A0 l0.length c0, .int .i64 a1] w fun e w' => ∃ v0_ : Value, e = .returned (v0_) ∧ Kd.R (Kd.int .i64) 3 w' w.heap.size (fun _ => True) v0_ r ∧ Below w.heap.size w w' := by
 have HR0 := Aside0.mk hr0; have HC0 := Aside0.mk hc0; clear hr0 hc0; have HB := Aside0.mk (Below.refl w.heap.size w); have H : (impl_entries.l0 k l0 a1 (l0.length : Int) (([0, 1] : List Int)) 1) = some r := h; clear h; obtain ⟨y373, hy373⟩ : ∃ y_ : List Int, y_ = (([0, 1] : List Int)) := ⟨_, rfl⟩; replace H : (impl_entries.l0 k l0 a1 (l0.length : Int) y373 1) = some r := rh_ hy373 H; have Ny373 := Aside0.mk hy373; clear hy373; have H' := Aside0.mk H; clear H
 go_enter Try.func58, Try.ntmps58
 go_wp2_with (first | ((with_reducible refine gate_dst (N := 10) rfl ?_); refine Kd.R_lit (Kd.int .i64) _ 3 ?hg (N := 10) ?hd (xs := ([0, 1] : List Int)) (inner := [.int .i64 0, .int .i64 1]) (ok := fun _ => True) (okp := fun _ => True) ?hr ?hp (fun _ hk => hk) trivial (Below.refl _ _) (Nat.le_refl _) (by simp) ?_; (case hd => rfl); (case hg => rfl); (case hr => first | (go_simp; done) | (go_simp; rfl)); (case hp => exact (Reps.one (show Kd.M (Kd.int .i64) _ _ _ 0 [.int .i64 0] from rfl) (Reps.one (show Kd.M (Kd.int .i64) _ _ _ 1 [.int .i64 1] from rfl) (Reps.none _ _)))); intro v374 w3 ho4 hb hg_ hnew_; clear hg_ hnew_; (first | rw [← Ny373.out] at ho4 | (simp only [Int.reduceToNat] at ho4; rw [← Ny373.out] at ho4)); have n0_ := Aside0.mk (Kd.R_lower ho4 (below_size (bl_ HB.out))); have n1_ := Aside0.mk (below_step (bl_ HB.out) hb); clear HB; have HO375 := n0_; have HB := n1_; clear n0_ n1_; clear hb ho4))
 go_loopg [6, 7] k (fun kq v6 v7 w' => ∃ (x6_1 : List Int) (x7_1 : Int), v7 = .int .i64 x7_1 ∧ Aside0 (impl_entries.l0 kq l0 a1 (l0.length : Int) x6_1 x7_1 = some r) ∧ Aside0 (kq ≤ k) ∧ Aside0 (Kd.R (Kd.int .i64) 3 w' w.heap.size (fun _ => True) v6 x6_1) ∧ Aside0 (Below w.heap.size w w'))
 case atStart => exact ⟨(y373), (1), (fs_), H', ⟨Nat.le_refl _⟩, ⟨kr_ HO375.out⟩, ⟨bl_ HB.out⟩⟩
 case round =>
  clear H'
  try clear p2
  obtain ⟨x6_1, x7_1, rfl, HA, HK1, HO_6, HB⟩ := hrel
  cases gk with
  | zero => exact absurd HA.out (by simp [impl_entries.l0])
  | succ k1 =>
   have H := HA.out; clear HA
   simp only [impl_entries.l0] at H
   by_cases c5 : x7_1 < (l0.length : Int)
   ·rw [if_pos c5] at H
    have c5b0 : decide (x7_1 < (l0.length : Int)) = true := decide_eq_true c5; clear c5; replace H := Option.bind_eq_some_iff.mp H; obtain ⟨t376, A60, H⟩ := H; replace H : (if 0 ≤ t376 then (if t376 < (l0.length : Int) then (if 0 ≤ x7_1 then (if x7_1 < (x6_1.length : Int) then (if 0 ≤ (wrap64 (x7_1 - 1)) then (if (wrap64 (x7_1 - 1)) < (x6_1.length : Int) then (if x6_1.length < 17592186044416 then (impl_entries.l0 k1 l0 a1 (l0.length : Int) (x6_1 ++ [wrap64 ((wrap64 ((rd l0 t376) * (rd x6_1 x7_1))) - (rd x6_1 (wrap64 (x7_1 - 1))))]) (wrap64 (x7_1 + 1))) else (none)) else (none)) else (none)) else (none)) else (none)) else (none)) else (none)) = some r := H
    have A6 := Aside0.mk A60; clear A60
    by_cases c7 : 0 ≤ t376
    ·rw [if_pos c7] at H
     have c7b0 : decide (0 ≤ t376) = true := decide_eq_true c7; clear c7
     by_cases c8 : t376 < (l0.length : Int)
     ·rw [if_pos c8] at H
      have c8b0 : decide (t376 < (l0.length : Int)) = true := decide_eq_true c8; clear c8
      by_cases c9 : 0 ≤ x7_1
      ·rw [if_pos c9] at H
       have c9b0 : decide (0 ≤ x7_1) = true := decide_eq_true c9; clear c9
       by_cases c10 : x7_1 < (x6_1.length : Int)
       ·rw [if_pos c10] at H
        have c10b0 : decide (x7_1 < (x6_1.length : Int)) = true := decide_eq_true c10; clear c10; obtain ⟨ji11, hji11⟩ : ∃ j_ : Int, (wrap64 (x7_1 - 1)) = j_ := ⟨_, rfl⟩; replace H : (if 0 ≤ (ji11) then (if (ji11) < (x6_1.length : Int) then (if x6_1.length < 17592186044416 then (impl_entries.l0 k1 l0 a1 (l0.length : Int) (x6_1 ++ [wrap64 ((wrap64 ((rd l0 t376) * (rd x6_1 x7_1))) - (rd x6_1 (ji11)))]) (wrap64 (x7_1 + 1))) else (none)) else (none)) else (none)) = some r := by first | (rw [hji11] at H; exact H) | (simp only [hji11] at H ⊢; exact H)
        (try rw [hji11] at A6)
        have hji11w : (IntKind.i64.wrap (x7_1 - 1)) = ji11 := (i64_w _).trans hji11
        by_cases c12 : 0 ≤ (ji11)
        ·rw [if_pos c12] at H
         have c12b0 : decide (0 ≤ (ji11)) = true := decide_eq_true c12; clear c12
         by_cases c13 : (ji11) < (x6_1.length : Int)
         ·rw [if_pos c13] at H
          have c13b0 : decide ((ji11) < (x6_1.length : Int)) = true := decide_eq_true c13; clear c13
          by_cases c14 : x6_1.length < 17592186044416
          ·rw [if_pos c14] at H
           have LMc14 := Aside0.mk c14; clear c14; obtain ⟨y380, hy380⟩ : ∃ y_ : List Int, y_ = (x6_1 ++ [wrap64 ((wrap64 ((rd l0 t376) * (rd x6_1 x7_1))) - (rd x6_1 (ji11)))]) := ⟨_, rfl⟩; replace H : (impl_entries.l0 k1 l0 a1 (l0.length : Int) y380 (wrap64 (x7_1 + 1))) = some r := rh_ hy380 H; have Ny380 := Aside0.mk hy380; clear hy380; have H' := Aside0.mk H; clear H
           try go_wp2
           have n0_ := Aside0.mk (Kd.R_drew HO_6.out); have n1_ := Aside0.mk (below_drew1 HB.out); clear HO_6; clear HB; have HO_6 := n0_; have HB := n1_; clear n0_ n1_; obtain ⟨Ao16, co16, eo16⟩ := Kd.R_slice HO_6.out
           (first | subst eo16 | (injection eo16 with f1_ f2_ f3_; have f4_ := f1_.symm; have f5_ := f3_.symm; clear f1_ f2_ f3_; subst f4_; subst f5_))
           have p378 : 0 ≤ (x7_1 : Int) := of_decide_eq_true as_; have q378 : x7_1 < (x6_1.length : Int) := of_decide_eq_true as_; obtain ⟨ad378, e378, hx378_0⟩ := Kd.at_int (Kd.R_reads' HO_6.out).2.2 x7_1 p378 q378
           cases e378
           replace p378 := eq_true p378; replace q378 := eq_true q378; have p379 : 0 ≤ ((ji11) : Int) := of_decide_eq_true as_; have q379 : (ji11) < (x6_1.length : Int) := of_decide_eq_true as_; obtain ⟨ad379, e379, hx379_0⟩ := Kd.at_int (Kd.R_reads' HO_6.out).2.2 (ji11) p379 q379; obtain rfl : ad378 = ad379 := (by injection e379)
           replace p379 := eq_true p379; replace q379 := eq_true q379; have p377 : 0 ≤ (t376 : Int) := of_decide_eq_true as_; have q377 : t376 < (l0.length : Int) := of_decide_eq_true as_; obtain ⟨ad377, e377, hx377_0⟩ := Kd.at_int HR0.out t376 p377 q377; have hw377_0 := hx377_0
           cases e377
           replace hx377_0 := (HB.out.cell (World.block_lt_of_cell? w _ hx377_0)).trans hx377_0; replace p377 := eq_true p377; replace q377 := eq_true q377; refine start_ (n := 23) (S := fun w' => w'.cell? (ad378.add (x7_1).toNat) = some (.int .i64 (rd x6_1 x7_1)) ∧ w'.cell? (ad378.add ((ji11)).toNat) = some (.int .i64 (rd x6_1 (ji11))) ∧ w'.cell? (ad377.add (t376).toNat) = some (.int .i64 (rd l0 t376))) (ds := [20, 21]) #[false, false, false, false, false, false, false, false, false, false, false, false, false, false, false, false, false, false, false, false, false, false, false] (by kernel_rfl) rfl rfl ⟨hx378_0, hx379_0, ((HB.out.cell (World.block_lt_of_cell? w _ hw377_0)).trans hw377_0)⟩ (fun hHeld => ?_); refine with_tabW impl_entries.tab5 impl_entries.bits5 (fun HT_ HW_ => ?_)
           generalize wr.drew = w15 at HO_6 HB hx377_0 hx378_0 hx379_0 hHeld ⊢
           refine pa_ 0 (some 16) rfl rfl HT_ ?_; refine pa_ 1 (some 17) rfl rfl HT_ ?_; refine pa_ 2 (some 18) rfl rfl HT_ ?_; refine pa_ 3 (some 19) rfl rfl HT_ ?_; refine pa_ 4 (some 20) rfl rfl HT_ ?_; refine pa_ 5 (some 21) rfl rfl HT_ ?_; refine pa_ 9 (some 25) rfl rfl HT_ ?_; refine pa_ 10 (some 26) rfl rfl HT_ ?_; refine pa_ 11 (some 27) rfl rfl HT_ ?_; refine pa_ 14 (some 30) rfl rfl HT_ ?_; refine pa_ 15 (some 31) rfl rfl HT_ ?_; refine pa_ 16 (some 32) rfl rfl HT_ ?_; refine pa_ 17 (some 33) rfl rfl HT_ ?_; refine ta2_ 12 (some 28) rfl rfl HT_ HW_ hHeld ?_; refine ta2_ 18 (some 34) rfl rfl HT_ HW_ hHeld ?_; refine one_ (i := 6) (N := some 22) #[true, true, true, true, true, true, true, false, false, true, true, true, true, false, true, true, true, true, true, false, false, false, false] rfl rfl (one_of HT_.out (by kernel_rfl)) (by decide) (fun K hK => ?_)
           refine goes_ Try.func76 (by kernel_rfl) rfl #[.int .i64 (wrap64 (a1 + x7_1)), .int .i64 (l0.length : Int)] (by rfl) rfl rfl (by (try simp only [List.map_toArray, List.map_cons, List.map_nil]); first | done | rfl | (simp only [List.length_drop, List.length_take]; rfl)) ?_
           with_reducible refine (impl_modulo.calls (wrap64 (a1 + x7_1)) (l0.length : Int) t376 _ A6.out).mono ?_
           rintro e w' ⟨rfl, ⟨nd, rfl⟩⟩
           refine ⟨_, rfl, ?_⟩; refine hK.out _ _ ⟨hHeld.1, hHeld.2.1, ((HB.out.cell (World.block_lt_of_cell? w _ hw377_0)).trans hw377_0)⟩ (fun hHeld => ?_)
           clear hK K; refine na_ (some 22) ?_; refine pa_ 7 (some 23) rfl rfl HT_ ?_; refine ta2_ 8 (some 24) rfl rfl HT_ HW_ hHeld ?_; refine pa_ 13 (some 29) rfl rfl HT_ ?_; refine pa_ 19 (some 35) rfl rfl HT_ ?_; refine last_ (i := 20) (N := some 36) #[true, true, true, true, true, true, true, true, true, true, true, true, true, true, true, true, true, true, true, true, true, false, false] rfl rfl (one_of HT_.out (by kernel_rfl)) (by decide) (fun K hK => ?_)
           refine value_ (w1 := ?_) (v := ?_) (by rfl) rfl ?_ ?_
           rotate_left 2
           ·go_simp
            constructor
            ·rfl
            ·rfl
           refine hK.out _ _ ?_; clear hK K; refine na_ (some 36) ?_; refine last_ (i := 21) (N := some 37) #[true, true, true, true, true, true, true, true, true, true, true, true, true, true, true, true, true, true, true, true, true, true, false] rfl rfl (one_of HT_.out (by kernel_rfl)) (by decide) (fun K hK => ?_)
           refine Kd.R_append_step (Kd.int .i64) (w0 := w) w.heap.size (by rfl) (.tmp 16) (.tmp 36) 22 3 (.int .i64 0) 8 rfl Try.underlying22 info3 rfl (by decide) (by omega) (.slice (some ad378) x6_1.length co16) x6_1 (wrap64 ((wrap64 ((rd l0 t376) * (rd x6_1 x7_1))) - (rd x6_1 (ji11)))) [.int .i64 (wrap64 ((wrap64 ((rd l0 t376) * (rd x6_1 x7_1))) - (rd x6_1 (ji11))))] (fun _ => True) (fun _ => False) rfl rfl ?aP (fun _ hk => hk.elim) ?aF ?aO ?aB ?aS ?aL ?_
           (case aP => exact rfl)
           (case aB => exact (bl_ HB.out))
           (case aF => exact (fun _ _ => trivial))
           (case aO => exact (kr_ HO_6.out))
           (case aS => exact (below_size (bl_ HB.out)))
           (case aL => have := LMc14.out; omega)
           intro v381 w17 ho hb hg hat; rw [← Ny380.out] at ho
           have n0_ := Aside0.mk (hb); have n1_ := Aside0.mk (ho); clear HB; clear HO_6; have HB := n0_; have HO382 := n1_; clear n0_ n1_; clear ho hb hg hat; refine hK.out _ _ ?_; clear hK K; refine na_ (some 37) ?_; refine pa_ 22 (some 6) rfl rfl HT_ ?_; refine done_ (done_of HT_.out (by kernel_rfl)) ?_
           try go_wp2
           go_roundg k1
           case measure => have := HK1.out; omega
           case rel => exact ⟨(y380), (wrap64 (x7_1 + 1)), (fs_), H', ⟨by have := HK1.out; omega⟩, ⟨kr_ HO382.out⟩, ⟨bl_ HB.out⟩⟩
          ·rw [if_neg c14] at H
           exact absurd H (by simp)
         ·rw [if_neg c13] at H
          exact absurd H (by simp)
        ·rw [if_neg c12] at H
         exact absurd H (by simp)
       ·rw [if_neg c10] at H
        exact absurd H (by simp)
      ·rw [if_neg c9] at H
       exact absurd H (by simp)
     ·rw [if_neg c8] at H
      exact absurd H (by simp)
    ·rw [if_neg c7] at H
     exact absurd H (by simp)
   ·rw [if_neg c5] at H
    have c5b0 : decide (x7_1 < (l0.length : Int)) = false := decide_eq_false c5; clear c5; obtain rfl := Option.some.inj H
    go_wp2
    go_ret
    exact ⟨_, by first | rfl | (simp [errW_none, errW_some] <;> rfl) | (simp [*, errW_none, errW_some] <;> rfl), by (with_reducible repeat (first | apply Kd.R_alloc | apply Kd.R_drewN | apply Kd.R_drew)); exact HO_6.out, bl_ HB.out⟩
def slices_IndexFunc_int_int__at_impl_FriezeOfDiagonal_1.l0 : Nat → List Int → Int → Int → Option (Int)
 | 0, _, _, _ => none
 | k + 1, x0, x7, x8 => if x8 < x7 then (if 0 ≤ x8 then (if x8 < (x0.length : Int) then ((impl_FriezeOfDiagonal_1.f (rd x0 x8)).bind fun t384 => (if t384 = true then (some x8) else (slices_IndexFunc_int_int__at_impl_FriezeOfDiagonal_1.l0 k x0 x7 (wrap64 (x8 + 1))))) else (none)) else (none)) else (some (-1))
def slices_IndexFunc_int_int__at_impl_FriezeOfDiagonal_1.f (k : Nat) (l0 : List Int)  : Option (Int) := slices_IndexFunc_int_int__at_impl_FriezeOfDiagonal_1.l0 k l0 (l0.length : Int) 0
set_option maxHeartbeats 8000000 in
set_option maxRecDepth 100000 in
theorem slices_IndexFunc_int_int__at_impl_FriezeOfDiagonal_1.calls (k : Nat) (A0 : Option Addr) (c0 : Nat) (l0 : List Int)  (r : Int) (w : World) (hr0 : Kd.C (Kd.int .i64) w A0 l0.length l0) (hc0 : l0.length ≤ c0) (h : slices_IndexFunc_int_int__at_impl_FriezeOfDiagonal_1.f k l0 = some r) :
  Calls Try.prog 74 #[.slice A0 l0.length c0, .func (.func 55) #[] #[]] w fun e w' => e = .returned (.int .i64 r) ∧ Drawn0 w w' := by
 have HR0 := Aside0.mk hr0; have HC0 := Aside0.mk hc0; clear hr0 hc0; have H : (slices_IndexFunc_int_int__at_impl_FriezeOfDiagonal_1.l0 k l0 (l0.length : Int) 0) = some r := h; clear h; have H' := Aside0.mk H; clear H
 go_enter Try.func74, Try.ntmps74
 go_wp2
 go_loopg [8] k (fun kq v8 w' => ∃ (x8_1 : Int), v8 = .int .i64 x8_1 ∧ Aside0 (slices_IndexFunc_int_int__at_impl_FriezeOfDiagonal_1.l0 kq l0 (l0.length : Int) x8_1 = some r) ∧ Aside0 (kq ≤ k) ∧ Drawn0 w w')
 case atStart => exact ⟨(0), (fs_), H', ⟨Nat.le_refl _⟩, dr_⟩
 case round =>
  clear H'
  try clear p2
  obtain ⟨x8_1, rfl, HA, HK1, ⟨m1, rfl⟩⟩ := hrel
  cases gk with
  | zero => exact absurd HA.out (by simp [slices_IndexFunc_int_int__at_impl_FriezeOfDiagonal_1.l0])
  | succ k1 =>
   have H := HA.out; clear HA
   simp only [slices_IndexFunc_int_int__at_impl_FriezeOfDiagonal_1.l0] at H
   by_cases c3 : x8_1 < (l0.length : Int)
   ·rw [if_pos c3] at H
    have c3b0 : decide (x8_1 < (l0.length : Int)) = true := decide_eq_true c3; clear c3
    by_cases c4 : 0 ≤ x8_1
    ·rw [if_pos c4] at H
     have c4b0 : decide (0 ≤ x8_1) = true := decide_eq_true c4; clear c4
     by_cases c5 : x8_1 < (l0.length : Int)
     ·rw [if_pos c5] at H
      have c5b0 : decide (x8_1 < (l0.length : Int)) = true := decide_eq_true c5; clear c5; replace H := Option.bind_eq_some_iff.mp H; obtain ⟨t384, A60, H⟩ := H; replace H : (if t384 = true then (some x8_1) else (slices_IndexFunc_int_int__at_impl_FriezeOfDiagonal_1.l0 k1 l0 (l0.length : Int) (wrap64 (x8_1 + 1)))) = some r := H
      have A6 := Aside0.mk A60; clear A60
      by_cases c7 : t384 = true
      ·subst c7
       have H1 : (some x8_1) = some r := by rw [if_pos rfl] at H; exact H
       clear H; have H := H1; clear H1; obtain rfl := Option.some.inj H; have p383 : 0 ≤ (x8_1 : Int) := of_decide_eq_true as_; have q383 : x8_1 < (l0.length : Int) := of_decide_eq_true as_; obtain ⟨ad383, e383, hx383_0⟩ := Kd.at_int HR0.out x8_1 p383 q383
       cases e383
       replace p383 := eq_true p383; replace q383 := eq_true q383
       go_wp2_with (first | (go_at_call 55; (with_reducible refine (impl_FriezeOfDiagonal_1.calls (rd l0 x8_1) true _ A6.out).mono ?_); rintro e w' ⟨rfl, ⟨nd, rfl⟩⟩))
       go_ret
       exact ⟨fs_, dr_⟩
      ·replace c7 := Bool.eq_false_iff.mpr c7
       subst c7; have H1 : (slices_IndexFunc_int_int__at_impl_FriezeOfDiagonal_1.l0 k1 l0 (l0.length : Int) (wrap64 (x8_1 + 1))) = some r := by rw [if_neg (show ¬ (false = true) by decide)] at H; exact H
       clear H; have H := H1; clear H1; have H' := Aside0.mk H; clear H; have p383 : 0 ≤ (x8_1 : Int) := of_decide_eq_true as_; have q383 : x8_1 < (l0.length : Int) := of_decide_eq_true as_; obtain ⟨ad383, e383, hx383_0⟩ := Kd.at_int HR0.out x8_1 p383 q383
       cases e383
       replace p383 := eq_true p383; replace q383 := eq_true q383
       go_wp2_with (first | (go_at_call 55; (with_reducible refine (impl_FriezeOfDiagonal_1.calls (rd l0 x8_1) false _ A6.out).mono ?_); rintro e w' ⟨rfl, ⟨nd, rfl⟩⟩))
       go_roundg k1
       case measure => have := HK1.out; omega
       case rel => exact ⟨(wrap64 (x8_1 + 1)), (fs_), H', ⟨by have := HK1.out; omega⟩, dr_⟩
     ·rw [if_neg c5] at H
      exact absurd H (by simp)
    ·rw [if_neg c4] at H
     exact absurd H (by simp)
   ·rw [if_neg c3] at H
    have c3b0 : decide (x8_1 < (l0.length : Int)) = false := decide_eq_false c3; clear c3; obtain rfl := Option.some.inj H
    go_wp2
    go_ret
    exact ⟨fs_, dr_⟩
def slices_ContainsFunc_int_int__at_impl_FriezeOfDiagonal_1.f (k : Nat) (l0 : List Int)  : Option (Bool) := (slices_IndexFunc_int_int__at_impl_FriezeOfDiagonal_1.f k l0).bind fun t385 => (some (decide (t385 ≥ 0)))
set_option maxHeartbeats 8000000 in
set_option maxRecDepth 100000 in
theorem slices_ContainsFunc_int_int__at_impl_FriezeOfDiagonal_1.calls (k : Nat) (A0 : Option Addr) (c0 : Nat) (l0 : List Int)  (r : Bool) (w : World) (hr0 : Kd.C (Kd.int .i64) w A0 l0.length l0) (hc0 : l0.length ≤ c0) (h : slices_ContainsFunc_int_int__at_impl_FriezeOfDiagonal_1.f k l0 = some r) :
  Calls Try.prog 54 #[.slice A0 l0.length c0, .func (.func 55) #[] #[]] w fun e w' => e = .returned (.bool r) ∧ Drawn0 w w' := by
 have HR0 := Aside0.mk hr0; have HC0 := Aside0.mk hc0; clear hr0 hc0; have H : ((slices_IndexFunc_int_int__at_impl_FriezeOfDiagonal_1.f k l0).bind fun t385 => (some (decide (t385 ≥ 0)))) = some r := h
 clear h; replace H := Option.bind_eq_some_iff.mp H; obtain ⟨t385, A30, H⟩ := H; replace H : (some (decide (t385 ≥ 0))) = some r := H; have A3 := Aside0.mk A30; clear A30; obtain rfl := Option.some.inj H
 go_enter Try.func54, Try.ntmps54
 go_wp2_with (first | ((with_reducible refine gate_callee (f := 74) rfl ?_); refine goesL_ (some 7) rfl rfl Try.func74 (by kernel_rfl) rfl #[.slice A0 l0.length c0, .func (.func 55) #[] #[]] rfl (by (try simp only [List.map_toArray, List.map_cons, List.map_nil]); first | done | rfl | (simp only [List.length_drop, List.length_take]; rfl)) ?_; (with_reducible refine (slices_IndexFunc_int_int__at_impl_FriezeOfDiagonal_1.calls k _ _ l0  t385 _ ?side1 ?side2 A3.out).mono ?_); (case side1 => repeat (first | exact HR0.out | (with_reducible refine Kd.C_alloc ?_ _) | (with_reducible refine Kd.C_drewN ?_ _) | (with_reducible refine Kd.C_drew ?_))); (case side2 => exact HC0.out); rintro e w' ⟨rfl, ⟨nd, rfl⟩⟩; refine ⟨_, rfl, ?_⟩))
 go_ret
 exact ⟨fs_, dr_⟩
end Go.Proofs.Ytinnmloliknilab.PFnExactFriezeOfDiagonal
