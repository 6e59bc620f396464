-- Written for this claim by a program of this session (wip/tools/xprint.py over the kit's printer, wip/tools/shrink.py).
import Derived.Test.YtcfcnnnkpdhecaaGreatPFnContinuantsSplitx0
import Derived.Test.YtcfcnnnkpdhecaaGreatPFnContinuantsSplitx10
import Derived.Test.YtcfcnnnkpdhecaaGreatPFnContinuantsSplitx11
namespace Go.Proofs.YtcfcnnnkpdhecaaGreat.PFnContinuantsSplit
open Go.RowKit Go.Proofs.YtcfcnnnkpdhecaaGreatW.PrintWords Go.Proofs.YtcfcnnnkpdhecaaGreatW.PrintLast Go.Proofs.YtcfcnnnkpdhecaaGreatW.PrintMore
attribute [local go_sem] max2_int min2_int max_two min_two max_three min_three max_four min_four   -- for this text's walks alone
set_option linter.unusedVariables false
set_option linter.unusedSimpArgs false
mutual
def impl_IsTriangulation.j0 : Nat → Int → List (S80) → Bool → Option (Bool)
 | 0, _, _, _ => none
 | k + 1, x0, x1, x16 => if x16 = true then (some false) else (impl_IsTriangulation.l0 k x0 x1 x1 (x1.length : Int) 0)
def impl_IsTriangulation.l0 : Nat → Int → List (S80) → List (S80) → Int → Int → Option (Bool)
 | 0, _, _, _, _, _ => none
 | k + 1, x0, x1, x17, x18, x19 => if x19 < x18 then (if 0 ≤ x19 then (if x19 < (x17.length : Int) then ((impl_isDiagonal.f x0 ((rd_T80 x17 x19).f0) ((rd_T80 x17 x19).f1)).bind fun t386 => (if t386 = true then (if x19 > 0 then (if 0 ≤ (wrap64 (x19 - 1)) then (if (wrap64 (x19 - 1)) < (x1.length : Int) then ((impl_compareDiagonals.f k ((rd_T80 x1 (wrap64 (x19 - 1))).f0) ((rd_T80 x1 (wrap64 (x19 - 1))).f1) ((rd_T80 x17 x19).f0) ((rd_T80 x17 x19).f1)).bind fun t388 => (if t388 ≥ 0 then (some false) else (if x19 ≤ (x1.length : Int) then ((impl_Diagonal__at_impl_IsTriangulation_1.f (x1.take (x19 : Int).toNat) ((rd_T80 x17 x19).f0) ((rd_T80 x17 x19).f1)).bind fun t393 => (if t393 = true then (some false) else (impl_IsTriangulation.l0 k x0 x1 x17 x18 (wrap64 (x19 + 1))))) else (none)))) else (none)) else (none)) else (if x19 ≤ (x1.length : Int) then ((impl_Diagonal__at_impl_IsTriangulation_1.f (x1.take (x19 : Int).toNat) ((rd_T80 x17 x19).f0) ((rd_T80 x17 x19).f1)).bind fun t398 => (if t398 = true then (some false) else (impl_IsTriangulation.l0 k x0 x1 x17 x18 (wrap64 (x19 + 1))))) else (none))) else (some false))) else (none)) else (none)) else (some true)
end
def impl_IsTriangulation.f (k : Nat) (a0 : Int) (l1 : List (S80)) : Option (Bool) := (impl_isPolygon.f a0).bind fun t383 => (if t383 = true then (impl_IsTriangulation.j0 k a0 l1 ((l1.length : Int) != (wrap64 (a0 - 3)))) else (impl_IsTriangulation.j0 k a0 l1 true))
def impl_IsTriangulation.T6 : Bool × List (List Nat × List Nat) := (true, [([], []), ([], []), ([0, 1], [0, 1]), ([2], [2]), ([3, 2], [3]), ([4], [4]), ([5, 4], [4, 5]), ([6, 4, 4], [4, 6]), ([7], [7]), ([7], [7]), ([9, 7], [7, 9]), ([8, 10, 7], [7, 8, 10]), ([11, 7], [7, 11]), ([7], [7]), ([12, 13, 7, 7], [7, 12, 13]), ([14, 7], [7, 14]), ([7, 15, 4], [4, 7, 15]), ([4, 16], [4, 16]), ([17, 14], [17]), ([18], [18]), ([18], [18]), ([19, 20, 18], [18, 19, 20]), ([18], [18]), ([21, 22, 18, 18], [18, 21, 22]), ([18, 23], [18, 23])])
def impl_IsTriangulation.B6 : List Nat := [0, 0, 3, 7, 15, 31, 63, 127, 255, 255, 767, 2047, 4095, 255, 16383, 32767, 65535, 131071, 262143, 524287, 524287, 2097151, 524287, 8388607, 16777215]
theorem impl_IsTriangulation.tab6 : rtab .any (opsOf Tryz.f80 6) = impl_IsTriangulation.T6 := by kernel_rfl
theorem impl_IsTriangulation.bits6 : waitsOk impl_IsTriangulation.T6.2 impl_IsTriangulation.B6 = true := by kernel_rfl
set_option maxHeartbeats 8000000 in
set_option maxRecDepth 100000 in
theorem impl_IsTriangulation.calls (k : Nat) (a0 : Int) (A1 : Option Addr) (c1 : Nat) (l1 : List (S80)) (r : Bool) (w : World) (hr1 : Kd.C k80 w A1 l1.length l1) (hc1 : l1.length ≤ c1) (h : impl_IsTriangulation.f k a0 l1 = some r) :
  Calls Tryz.prog 80 #[.int .i64 a0, .slice A1 l1.length c1] w fun e w' => e = .returned (.bool r) ∧ Below w.heap.size w w' := by
 have hu80 := Tryz.underlying80; have HR1 := Aside0.mk hr1; have HC1 := Aside0.mk hc1; clear hr1 hc1; have HB := Aside0.mk (Below.refl w.heap.size w); have H : ((impl_isPolygon.f a0).bind fun t383 => (if t383 = true then (impl_IsTriangulation.j0 k a0 l1 ((l1.length : Int) != (wrap64 (a0 - 3)))) else (impl_IsTriangulation.j0 k a0 l1 true))) = some r := h
 clear h; have HC3 := Aside0.mk H; clear H
 go_enter Tryz.func80, Tryz.ntmps80
 go_upto_region 1 with (fail)
 go_cut [16] (fun v16 wc => ∃ (kq : Nat) (x16_2 : Bool), v16 = .bool x16_2 ∧ Aside0 (impl_IsTriangulation.j0 kq a0 l1 x16_2 = some r) ∧ Aside0 (kq ≤ k) ∧ Aside0 (Below w.heap.size w wc))
 case first =>
  have H := HC3.out; clear HC3; replace H := Option.bind_eq_some_iff.mp H; obtain ⟨t383, A40, H⟩ := H; have A4 := Aside0.mk A40; clear A40
  by_cases c5 : t383 = true
  ·subst c5
   rw [if_pos rfl] at H
   have H' := Aside0.mk H; clear H
   go_wp2_with (first | ((with_reducible refine gate_callee (f := 74) rfl ?_); refine gl_ (some 8) Tryz.func74 #[.int .i64 a0] rfl ?_; (with_reducible refine (impl_isPolygon.calls a0 true _ A4.out).mono ?_); rintro e w' ⟨rfl, ⟨nd, rfl⟩⟩; refine ⟨_, rfl, ?_⟩))
   go_meet
   case rel => exact ⟨_, (((l1.length : Int) != (wrap64 (a0 - 3)))), (fs_), H', ⟨by first | omega | exact Nat.le_refl _⟩, ⟨bl_ HB.out⟩⟩
  ·replace c5 := Bool.eq_false_iff.mpr c5
   subst c5; rw [if_neg (show ¬ (false = true) by decide)] at H
   have H' := Aside0.mk H; clear H
   go_wp2_with (first | ((with_reducible refine gate_callee (f := 74) rfl ?_); refine gl_ (some 8) Tryz.func74 #[.int .i64 a0] rfl ?_; (with_reducible refine (impl_isPolygon.calls a0 false _ A4.out).mono ?_); rintro e w' ⟨rfl, ⟨nd, rfl⟩⟩; refine ⟨_, rfl, ?_⟩))
   go_meet
   case rel => exact ⟨_, (true), (fs_), H', ⟨by first | omega | exact Nat.le_refl _⟩, ⟨bl_ HB.out⟩⟩
 case rest =>
  clear HC3
  try clear c1
  try clear p2
  try clear c5
  obtain ⟨kq, x16_2, rfl, HA, HJ2, HB⟩ := hcut
  cases kq with
  | zero => exact absurd HA.out (by simp [impl_IsTriangulation.j0])
  | succ kj2 =>
   have H := HA.out; clear HA
   simp only [impl_IsTriangulation.j0] at H
   by_cases c6 : x16_2 = true
   ·subst c6
    rw [if_pos rfl] at H
    obtain rfl := Option.some.inj H
    go_wp2
    go_ret
    exact ⟨by first | rfl | (simp [errW_none, errW_some] <;> rfl) | (simp [*, errW_none, errW_some] <;> rfl), bl_ HB.out⟩
   ·replace c6 := Bool.eq_false_iff.mpr c6
    subst c6; rw [if_neg (show ¬ (false = true) by decide)] at H
    have H' := Aside0.mk H; clear H
    go_wp2
    go_loopg [19] kj2 (fun kq v19 w' => ∃ (x19_2 : Int), v19 = .int .i64 x19_2 ∧ Aside0 (impl_IsTriangulation.l0 kq a0 l1 l1 (l1.length : Int) x19_2 = some r) ∧ Aside0 (kq ≤ kj2) ∧ Aside0 (Below w.heap.size w w'))
    case atStart => exact ⟨(0), (fs_), H', ⟨Nat.le_refl _⟩, ⟨bl_ HB.out⟩⟩
    case round =>
     clear H'
     try clear c1
     try clear p2
     try clear c5
     try clear c6
     try clear p6
     try clear p2
     obtain ⟨x19_2, rfl, HA, HK2, HB⟩ := hrel
     cases gk with
     | zero => exact absurd HA.out (by simp [impl_IsTriangulation.l0])
     | succ k2 =>
      have H := HA.out; clear HA
      simp only [impl_IsTriangulation.l0] at H
      by_cases c7 : x19_2 < (l1.length : Int)
      ·rw [if_pos c7] at H
       have c7b0 : decide (x19_2 < (l1.length : Int)) = true := decide_eq_true c7; clear c7
       by_cases c8 : 0 ≤ x19_2
       ·rw [if_pos c8] at H
        have c8b0 : decide (0 ≤ x19_2) = true := decide_eq_true c8; clear c8
        by_cases c9 : x19_2 < (l1.length : Int)
        ·rw [if_pos c9] at H
         have c9b0 : decide (x19_2 < (l1.length : Int)) = true := decide_eq_true c9; clear c9; replace H := Option.bind_eq_some_iff.mp H; obtain ⟨t386, A100, H⟩ := H; have A10 := Aside0.mk A100; clear A100
         by_cases c11 : t386 = true
         ·subst c11
          rw [if_pos rfl] at H
          by_cases c12 : x19_2 > 0
          ·rw [if_pos c12] at H
           have c12b0 : decide (0 < x19_2) = true := decide_eq_true c12; clear c12; obtain ⟨ji13, hji13⟩ : ∃ j_ : Int, (wrap64 (x19_2 - 1)) = j_ := ⟨_, rfl⟩; replace H : (if 0 ≤ (ji13) then (if (ji13) < (l1.length : Int) then ((impl_compareDiagonals.f k2 ((rd_T80 l1 (ji13)).f0) ((rd_T80 l1 (ji13)).f1) ((rd_T80 l1 x19_2).f0) ((rd_T80 l1 x19_2).f1)).bind fun t388 => (if t388 ≥ 0 then (some false) else (if x19_2 ≤ (l1.length : Int) then ((impl_Diagonal__at_impl_IsTriangulation_1.f (l1.take (x19_2 : Int).toNat) ((rd_T80 l1 x19_2).f0) ((rd_T80 l1 x19_2).f1)).bind fun t393 => (if t393 = true then (some false) else (impl_IsTriangulation.l0 k2 a0 l1 l1 (l1.length : Int) (wrap64 (x19_2 + 1))))) else (none)))) else (none)) else (none)) = some r := by first | (rw [hji13] at H; exact H) | (simp only [hji13] at H ⊢; exact H)
           (try rw [hji13] at A10)
           have hji13w : (IntKind.i64.wrap (x19_2 - 1)) = ji13 := (i64_w _).trans hji13
           by_cases c14 : 0 ≤ (ji13)
           ·rw [if_pos c14] at H
            have c14b0 : decide (0 ≤ (ji13)) = true := decide_eq_true c14; clear c14
            by_cases c15 : (ji13) < (l1.length : Int)
            ·rw [if_pos c15] at H
             have c15b0 : decide ((ji13) < (l1.length : Int)) = true := decide_eq_true c15; clear c15; replace H := Option.bind_eq_some_iff.mp H; obtain ⟨t388, A160, H⟩ := H; have A16 := Aside0.mk A160; clear A160
             by_cases c17 : t388 ≥ 0
             ·rw [if_pos c17] at H
              have c17b0 : decide (0 ≤ t388) = true := decide_eq_true c17; clear c17; obtain rfl := Option.some.inj H; have p384 : 0 ≤ (x19_2 : Int) := of_decide_eq_true as_; have q384 : x19_2 < (l1.length : Int) := of_decide_eq_true as_; obtain ⟨ad384, e384, hx384_0, hx384_1⟩ := at_T80 HR1.out x19_2 p384 q384
              cases e384
              replace hx384_0 := (HB.out.cell (World.block_lt_of_cell? w _ hx384_0)).trans hx384_0; replace hx384_1 := (HB.out.cell (World.block_lt_of_cell? w _ hx384_1)).trans hx384_1; replace p384 := eq_true p384; replace q384 := eq_true q384
              try go_wp2_with (first | ((with_reducible refine gate_dst (N := 6) rfl ?_); (try (refine gate_guard (by rfl) ?_; dsimp only)); refine be_ #[.int .i64 0, .int .i64 0] 80 ?_; intro gb385 hg w18 hbox hb; have BK385 := Aside0.mk (hbox); have GW385 := Aside0.mk ((by rw [hg]; exact (below_size (bl_ HB.out)) : w.heap.size ≤ gb385)); have GE385 := Aside0.mk ((by rw [hg]; exact (below_size (bl_ HB.out)) : w.heap.size ≤ gb385)); replace HB := Aside0.mk (below_step (bl_ HB.out) hb); clear hb hbox hg; have hcz19_0 := cz_ BK385.out 0 (.int .i64 0); have hcz19_1 := cz_ BK385.out 1 (.int .i64 0); have hfz19_0 := blk_frozen BK385.out 0; have hfz19_1 := blk_frozen BK385.out 1))
              have n0_ : Aside0 (((w18.setCell ⟨gb385, 0, none⟩ (.int .i64 ((rd_T80 l1 x19_2).f0))).setCell ⟨gb385, 1, none⟩ (.int .i64 ((rd_T80 l1 x19_2).f1))).heap[gb385]? = some (.cells #[.int .i64 ((rd_T80 l1 x19_2).f0), .int .i64 ((rd_T80 l1 x19_2).f1)] 80 (0, 0))) := ⟨by (with_reducible repeat (first | refine blk_drewN ?_ _ | refine blk_drew ?_ | refine blk_alloc ?_ _)); refine blk_put (cs := #[.int .i64 ((rd_T80 l1 x19_2).f0), .int .i64 0]) ?_ 1 _ rfl; (with_reducible repeat (first | refine blk_drewN ?_ _ | refine blk_drew ?_ | refine blk_alloc ?_ _)); refine blk_put (cs := #[.int .i64 0, .int .i64 0]) ?_ 0 _ rfl; (with_reducible repeat (first | refine blk_drewN ?_ _ | refine blk_drew ?_ | refine blk_alloc ?_ _)); exact BK385.out⟩
              have n1_ : Aside0 (Below w.heap.size w ((w18.setCell ⟨gb385, 0, none⟩ (.int .i64 ((rd_T80 l1 x19_2).f0))).setCell ⟨gb385, 1, none⟩ (.int .i64 ((rd_T80 l1 x19_2).f1)))) := ⟨bs_ HB.out GE385.out⟩
              (try clear BK385)
              (try clear HB)
              generalize ((w18.setCell ⟨gb385, 0, none⟩ (.int .i64 ((rd_T80 l1 x19_2).f0))).setCell ⟨gb385, 1, none⟩ (.int .i64 ((rd_T80 l1 x19_2).f1))) = w20 at n0_ n1_ ⊢
              have BK385 := n0_; have HB := n1_; clear n0_ n1_; replace BK385 := Aside0.mk (blk_drew BK385.out); replace HB := Aside0.mk (below_drew1 HB.out); have p387 : 0 ≤ ((ji13) : Int) := of_decide_eq_true as_; have q387 : (ji13) < (l1.length : Int) := of_decide_eq_true as_; obtain ⟨ad387, e387, hx387_0, hx387_1⟩ := at_T80 HR1.out (ji13) p387 q387; have hw387_1 := hx387_1; have hw387_0 := hx387_0; obtain rfl : ad384 = ad387 := (by injection e387)
              replace hx387_0 := (HB.out.cell (World.block_lt_of_cell? w _ hx387_0)).trans hx387_0; replace hx387_1 := (HB.out.cell (World.block_lt_of_cell? w _ hx387_1)).trans hx387_1; replace p387 := eq_true p387; replace q387 := eq_true q387; refine start_ (n := 25) (S := fun w' => w'.cell? ⟨gb385, 0, none⟩ = some (.int .i64 ((rd_T80 l1 x19_2).f0)) ∧ w'.cell? ⟨gb385, 1, none⟩ = some (.int .i64 ((rd_T80 l1 x19_2).f1)) ∧ w'.cell? (ad384.add (((ji13)).toNat * 2)) = some (.int .i64 ((rd_T80 l1 (ji13)).f0)) ∧ w'.cell? ⟨(ad384.add (((ji13)).toNat * 2)).block, (ad384.add (((ji13)).toNat * 2)).off + 1, none⟩ = some (.int .i64 ((rd_T80 l1 (ji13)).f1))) (ds := []) #[false, false, false, false, false, false, false, false, false, false, false, false, false, false, false, false, false, false, false, false, false, false, false, false, false] (by kernel_rfl) rfl rfl ⟨(blk_cell BK385.out 0).trans rfl, (blk_cell BK385.out 1).trans rfl, ((HB.out.cell (World.block_lt_of_cell? w _ hw387_0)).trans hw387_0), ((HB.out.cell (World.block_lt_of_cell? w _ hw387_1)).trans hw387_1)⟩ (fun hHeld => ?_); refine with_tabW impl_IsTriangulation.tab6 impl_IsTriangulation.bits6 (fun HT_ HW_ => ?_)
              generalize w20.drew = w21 at BK385 HB hx387_0 hx387_1 hHeld ⊢
              refine pa_ 0 (some 24) rfl rfl HT_ ?_; refine ta0_ 1 (some 25) rfl rfl HT_ HW_ hHeld ?_; refine one_ (i := 2) (N := some 26) #[true, true, true, false, false, false, false, false, false, false, false, false, false, false, false, false, false, false, false, false, false, false, false, false, false] rfl rfl (one_of HT_.out (by kernel_rfl)) (by decide) (fun K hK => ?_)
              refine goes_ Tryz.func87 (by kernel_rfl) rfl #[.int .i64 a0, .agg #[.int .i64 ((rd_T80 l1 x19_2).f0), .int .i64 ((rd_T80 l1 x19_2).f1)]] (by rfl) rfl rfl (by (try simp only [List.map_toArray, List.map_cons, List.map_nil]); first | done | rfl | (simp only [List.length_drop, List.length_take]; rfl)) ?_
              with_reducible refine (impl_isDiagonal.calls a0 ((rd_T80 l1 x19_2).f0) ((rd_T80 l1 x19_2).f1) true _ A10.out).mono ?_
              rintro e w22 ⟨rfl, hb⟩
              refine ⟨_, rfl, ?_⟩; replace BK385 := Aside0.mk (blk_below (g := gb385) (o := .cells #[.int .i64 ((rd_T80 l1 x19_2).f0), .int .i64 ((rd_T80 l1 x19_2).f1)] 80 (0, 0)) (bk_ BK385.out) hb); replace HB := Aside0.mk (below_step (bs_ HB.out GE385.out) hb)
              (try clear hb)
              (try clear hb2)
              (try clear hk)
              (try clear hi)
              refine hK.out _ _ ⟨(blk_cell BK385.out 0).trans rfl, (blk_cell BK385.out 1).trans rfl, ((HB.out.cell (World.block_lt_of_cell? w _ hw387_0)).trans hw387_0), ((HB.out.cell (World.block_lt_of_cell? w _ hw387_1)).trans hw387_1)⟩ (fun hHeld => ?_)
              clear hK K; refine na_ (some 26) ?_; refine pa_ 3 (some 27) rfl rfl HT_ ?_; refine pa_ 4 (some 28) rfl rfl HT_ ?_; refine pa_ 5 (some 29) rfl rfl HT_ ?_; refine pa_ 6 (some 30) rfl rfl HT_ ?_; refine pa_ 7 (some 31) rfl rfl HT_ ?_; refine pa_ 8 (some 32) rfl rfl HT_ ?_; refine pa_ 9 (some 33) rfl rfl HT_ ?_; refine pa_ 10 (some 34) rfl rfl HT_ ?_; refine pa_ 11 (some 35) rfl rfl HT_ ?_; refine ta0_ 12 (some 36) rfl rfl HT_ HW_ hHeld ?_; refine ta0_ 13 (some 37) rfl rfl HT_ HW_ hHeld ?_; refine one_ (i := 14) (N := some 38) #[true, true, true, true, true, true, true, true, true, true, true, true, true, true, true, false, false, false, false, false, false, false, false, false, false] rfl rfl (one_of HT_.out (by kernel_rfl)) (by decide) (fun K hK => ?_)
              refine goes_ Tryz.func78 (by kernel_rfl) rfl #[.agg #[.int .i64 ((rd_T80 l1 (ji13)).f0), .int .i64 ((rd_T80 l1 (ji13)).f1)], .agg #[.int .i64 ((rd_T80 l1 x19_2).f0), .int .i64 ((rd_T80 l1 x19_2).f1)]] (by rfl) rfl rfl (by (try simp only [List.map_toArray, List.map_cons, List.map_nil]); first | done | (simp only [hji13]; rfl) | rfl | (simp only [List.length_drop, List.length_take]; rfl)) ?_
              with_reducible refine (impl_compareDiagonals.calls k2 ((rd_T80 l1 (ji13)).f0) ((rd_T80 l1 (ji13)).f1) ((rd_T80 l1 x19_2).f0) ((rd_T80 l1 x19_2).f1) t388 _ A16.out).mono ?_
              rintro e w23 ⟨rfl, hb⟩
              refine ⟨_, rfl, ?_⟩; replace BK385 := Aside0.mk (blk_below (g := gb385) (o := .cells #[.int .i64 ((rd_T80 l1 x19_2).f0), .int .i64 ((rd_T80 l1 x19_2).f1)] 80 (0, 0)) (bk_ BK385.out) hb); replace HB := Aside0.mk (below_step (bs_ HB.out GE385.out) hb)
              (try clear hb)
              (try clear hb2)
              (try clear hk)
              (try clear hi)
              refine hK.out _ _ ⟨(blk_cell BK385.out 0).trans rfl, (blk_cell BK385.out 1).trans rfl, ((HB.out.cell (World.block_lt_of_cell? w _ hw387_0)).trans hw387_0), ((HB.out.cell (World.block_lt_of_cell? w _ hw387_1)).trans hw387_1)⟩ (fun hHeld => ?_)
              clear hK K; refine na_ (some 38) ?_; refine pa_ 15 (some 39) rfl rfl HT_ ?_; refine pa_ 16 (some 40) rfl rfl HT_ ?_; refine pa_ 17 (some 41) rfl rfl HT_ ?_; refine pa_ 18 (some 42) rfl rfl HT_ ?_; refine pb_ 19 (some 43) rfl rfl HT_ ?_; refine pb_ 20 (some 44) rfl rfl HT_ ?_; refine pb_ 21 (some 45) rfl rfl HT_ ?_; refine pb_ 22 (some 46) rfl rfl HT_ ?_; refine pb_ 23 (some 47) rfl rfl HT_ ?_; refine pa_ 24 (some 48) rfl rfl HT_ ?_; refine done_ (done_of HT_.out (by kernel_rfl)) ?_
              try go_wp2
              go_ret
              exact ⟨by first | rfl | (simp [errW_none, errW_some] <;> rfl) | (simp only [← hji13]; first | rfl | (simp [errW_none, errW_some] <;> rfl)) | (simp [*, errW_none, errW_some] <;> rfl), bs_ HB.out GE385.out⟩
             ·rw [if_neg c17] at H
              have c17b0 : decide (0 ≤ t388) = false := decide_eq_false c17; clear c17; have c24b0 := eq_true (of_decide_eq_true as_ : 0 ≤ x19_2)
              by_cases c25 : x19_2 ≤ (l1.length : Int)
              ·rw [if_pos c25] at H
               have c25b0 := eq_true c25; have c25b1 : decide (x19_2 ≤ (l1.length : Int)) = true := decide_eq_true c25; clear c25; obtain ⟨y389, hy389⟩ : ∃ y_ : List (S80), y_ = (l1.take (x19_2 : Int).toNat) := ⟨_, rfl⟩; replace H : ((impl_Diagonal__at_impl_IsTriangulation_1.f y389 ((rd_T80 l1 x19_2).f0) ((rd_T80 l1 x19_2).f1)).bind fun t393 => (if t393 = true then (some false) else (impl_IsTriangulation.l0 k2 a0 l1 l1 (l1.length : Int) (wrap64 (x19_2 + 1))))) = some r := rh_ hy389 H
               have Ny389 := Aside0.mk hy389; clear hy389; replace H := Option.bind_eq_some_iff.mp H; obtain ⟨t393, A260, H⟩ := H; have A26 := Aside0.mk A260; clear A260
               by_cases c27 : t393 = true
               ·subst c27
                rw [if_pos rfl] at H
                obtain rfl := Option.some.inj H; have p384 : 0 ≤ (x19_2 : Int) := of_decide_eq_true as_; have q384 : x19_2 < (l1.length : Int) := of_decide_eq_true as_; obtain ⟨ad384, e384, hx384_0, hx384_1⟩ := at_T80 HR1.out x19_2 p384 q384
                cases e384
                replace hx384_0 := (HB.out.cell (World.block_lt_of_cell? w _ hx384_0)).trans hx384_0; replace hx384_1 := (HB.out.cell (World.block_lt_of_cell? w _ hx384_1)).trans hx384_1; replace p384 := eq_true p384; replace q384 := eq_true q384
                try go_wp2_with (first | ((with_reducible refine gate_dst (N := 6) rfl ?_); (try (refine gate_guard (by rfl) ?_; dsimp only)); refine be_ #[.int .i64 0, .int .i64 0] 80 ?_; intro gb385 hg w28 hbox hb; have BK385 := Aside0.mk (hbox); have GW385 := Aside0.mk ((by rw [hg]; exact (below_size (bl_ HB.out)) : w.heap.size ≤ gb385)); have GE385 := Aside0.mk ((by rw [hg]; exact (below_size (bl_ HB.out)) : w.heap.size ≤ gb385)); replace HB := Aside0.mk (below_step (bl_ HB.out) hb); clear hb hbox hg; have hcz29_0 := cz_ BK385.out 0 (.int .i64 0); have hcz29_1 := cz_ BK385.out 1 (.int .i64 0); have hfz29_0 := blk_frozen BK385.out 0; have hfz29_1 := blk_frozen BK385.out 1))
                have n0_ : Aside0 (((w28.setCell ⟨gb385, 0, none⟩ (.int .i64 ((rd_T80 l1 x19_2).f0))).setCell ⟨gb385, 1, none⟩ (.int .i64 ((rd_T80 l1 x19_2).f1))).heap[gb385]? = some (.cells #[.int .i64 ((rd_T80 l1 x19_2).f0), .int .i64 ((rd_T80 l1 x19_2).f1)] 80 (0, 0))) := ⟨by (with_reducible repeat (first | refine blk_drewN ?_ _ | refine blk_drew ?_ | refine blk_alloc ?_ _)); refine blk_put (cs := #[.int .i64 ((rd_T80 l1 x19_2).f0), .int .i64 0]) ?_ 1 _ rfl; (with_reducible repeat (first | refine blk_drewN ?_ _ | refine blk_drew ?_ | refine blk_alloc ?_ _)); refine blk_put (cs := #[.int .i64 0, .int .i64 0]) ?_ 0 _ rfl; (with_reducible repeat (first | refine blk_drewN ?_ _ | refine blk_drew ?_ | refine blk_alloc ?_ _)); exact BK385.out⟩
                have n1_ : Aside0 (Below w.heap.size w ((w28.setCell ⟨gb385, 0, none⟩ (.int .i64 ((rd_T80 l1 x19_2).f0))).setCell ⟨gb385, 1, none⟩ (.int .i64 ((rd_T80 l1 x19_2).f1)))) := ⟨bs_ HB.out GE385.out⟩
                (try clear BK385)
                (try clear HB)
                generalize ((w28.setCell ⟨gb385, 0, none⟩ (.int .i64 ((rd_T80 l1 x19_2).f0))).setCell ⟨gb385, 1, none⟩ (.int .i64 ((rd_T80 l1 x19_2).f1))) = w30 at n0_ n1_ ⊢
                have BK385 := n0_; have HB := n1_; clear n0_ n1_; replace BK385 := Aside0.mk (blk_drew BK385.out); replace HB := Aside0.mk (below_drew1 HB.out); have p387 : 0 ≤ ((ji13) : Int) := of_decide_eq_true as_; have q387 : (ji13) < (l1.length : Int) := of_decide_eq_true as_; obtain ⟨ad387, e387, hx387_0, hx387_1⟩ := at_T80 HR1.out (ji13) p387 q387; have hw387_1 := hx387_1; have hw387_0 := hx387_0; obtain rfl : ad384 = ad387 := (by injection e387)
                replace hx387_0 := (HB.out.cell (World.block_lt_of_cell? w _ hx387_0)).trans hx387_0; replace hx387_1 := (HB.out.cell (World.block_lt_of_cell? w _ hx387_1)).trans hx387_1; replace p387 := eq_true p387; replace q387 := eq_true q387; refine start_ (n := 25) (S := fun w' => w'.cell? ⟨gb385, 0, none⟩ = some (.int .i64 ((rd_T80 l1 x19_2).f0)) ∧ w'.cell? ⟨gb385, 1, none⟩ = some (.int .i64 ((rd_T80 l1 x19_2).f1)) ∧ w'.cell? (ad384.add (((ji13)).toNat * 2)) = some (.int .i64 ((rd_T80 l1 (ji13)).f0)) ∧ w'.cell? ⟨(ad384.add (((ji13)).toNat * 2)).block, (ad384.add (((ji13)).toNat * 2)).off + 1, none⟩ = some (.int .i64 ((rd_T80 l1 (ji13)).f1))) (ds := []) #[false, false, false, false, false, false, false, false, false, false, false, false, false, false, false, false, false, false, false, false, false, false, false, false, false] (by kernel_rfl) rfl rfl ⟨(blk_cell BK385.out 0).trans rfl, (blk_cell BK385.out 1).trans rfl, ((HB.out.cell (World.block_lt_of_cell? w _ hw387_0)).trans hw387_0), ((HB.out.cell (World.block_lt_of_cell? w _ hw387_1)).trans hw387_1)⟩ (fun hHeld => ?_); refine with_tabW impl_IsTriangulation.tab6 impl_IsTriangulation.bits6 (fun HT_ HW_ => ?_)
                generalize w30.drew = w31 at BK385 HB hx387_0 hx387_1 hHeld ⊢
                refine pa_ 0 (some 24) rfl rfl HT_ ?_; refine ta0_ 1 (some 25) rfl rfl HT_ HW_ hHeld ?_; refine one_ (i := 2) (N := some 26) #[true, true, true, false, false, false, false, false, false, false, false, false, false, false, false, false, false, false, false, false, false, false, false, false, false] rfl rfl (one_of HT_.out (by kernel_rfl)) (by decide) (fun K hK => ?_)
                refine goes_ Tryz.func87 (by kernel_rfl) rfl #[.int .i64 a0, .agg #[.int .i64 ((rd_T80 l1 x19_2).f0), .int .i64 ((rd_T80 l1 x19_2).f1)]] (by rfl) rfl rfl (by (try simp only [List.map_toArray, List.map_cons, List.map_nil]); first | done | rfl | (simp only [List.length_drop, List.length_take]; rfl)) ?_
                with_reducible refine (impl_isDiagonal.calls a0 ((rd_T80 l1 x19_2).f0) ((rd_T80 l1 x19_2).f1) true _ A10.out).mono ?_
                rintro e w32 ⟨rfl, hb⟩
                refine ⟨_, rfl, ?_⟩; replace BK385 := Aside0.mk (blk_below (g := gb385) (o := .cells #[.int .i64 ((rd_T80 l1 x19_2).f0), .int .i64 ((rd_T80 l1 x19_2).f1)] 80 (0, 0)) (bk_ BK385.out) hb); replace HB := Aside0.mk (below_step (bs_ HB.out GE385.out) hb)
                (try clear hb)
                (try clear hb2)
                (try clear hk)
                (try clear hi)
                refine hK.out _ _ ⟨(blk_cell BK385.out 0).trans rfl, (blk_cell BK385.out 1).trans rfl, ((HB.out.cell (World.block_lt_of_cell? w _ hw387_0)).trans hw387_0), ((HB.out.cell (World.block_lt_of_cell? w _ hw387_1)).trans hw387_1)⟩ (fun hHeld => ?_)
                clear hK K; refine na_ (some 26) ?_; refine pa_ 3 (some 27) rfl rfl HT_ ?_; refine pa_ 4 (some 28) rfl rfl HT_ ?_; refine pa_ 5 (some 29) rfl rfl HT_ ?_; refine pa_ 6 (some 30) rfl rfl HT_ ?_; refine pa_ 7 (some 31) rfl rfl HT_ ?_; refine pa_ 8 (some 32) rfl rfl HT_ ?_; refine pa_ 9 (some 33) rfl rfl HT_ ?_; refine pa_ 10 (some 34) rfl rfl HT_ ?_; refine pa_ 11 (some 35) rfl rfl HT_ ?_; refine ta0_ 12 (some 36) rfl rfl HT_ HW_ hHeld ?_; refine ta0_ 13 (some 37) rfl rfl HT_ HW_ hHeld ?_; refine one_ (i := 14) (N := some 38) #[true, true, true, true, true, true, true, true, true, true, true, true, true, true, true, false, false, false, false, false, false, false, false, false, false] rfl rfl (one_of HT_.out (by kernel_rfl)) (by decide) (fun K hK => ?_)
                refine goes_ Tryz.func78 (by kernel_rfl) rfl #[.agg #[.int .i64 ((rd_T80 l1 (ji13)).f0), .int .i64 ((rd_T80 l1 (ji13)).f1)], .agg #[.int .i64 ((rd_T80 l1 x19_2).f0), .int .i64 ((rd_T80 l1 x19_2).f1)]] (by rfl) rfl rfl (by (try simp only [List.map_toArray, List.map_cons, List.map_nil]); first | done | (simp only [hji13]; rfl) | rfl | (simp only [List.length_drop, List.length_take]; rfl)) ?_
                with_reducible refine (impl_compareDiagonals.calls k2 ((rd_T80 l1 (ji13)).f0) ((rd_T80 l1 (ji13)).f1) ((rd_T80 l1 x19_2).f0) ((rd_T80 l1 x19_2).f1) t388 _ A16.out).mono ?_
                rintro e w33 ⟨rfl, hb⟩
                refine ⟨_, rfl, ?_⟩; replace BK385 := Aside0.mk (blk_below (g := gb385) (o := .cells #[.int .i64 ((rd_T80 l1 x19_2).f0), .int .i64 ((rd_T80 l1 x19_2).f1)] 80 (0, 0)) (bk_ BK385.out) hb); replace HB := Aside0.mk (below_step (bs_ HB.out GE385.out) hb)
                (try clear hb)
                (try clear hb2)
                (try clear hk)
                (try clear hi)
                have q34 : (x19_2 : Int) ≤ ((l1.length : Int) : Int) := of_decide_eq_true as_; obtain ⟨i034, hi034, _, hsz34, _⟩ := info_parts info80; have hroom34 : l1.length ≤ c1 := HC1.out; have hC34 : Kd.C k80 _ (some ad384) l1.length l1 := HR1.out; have hcut34 := cut_to (P := Tryz.prog) 71 80 .i64 Tryz.underlying71 hi034 (some ad384) l1.length c1 x19_2 (of_decide_eq_true as_) q34 hroom34; have hr34 := Kd.C_take (m := (x19_2 : Int).toNat) hC34 (by omega)
                have hy34 : y389.length = (x19_2 : Int).toNat := (by rw [Ny389.out, List.length_take]; omega)
                rw [← Ny389.out] at hr34
                rw [← hy34] at hcut34
                have HR392 := Aside0.mk hr34; have HC392 := Aside0.mk (show y389.length ≤ c1 from by omega)
                clear hr34 hC34 hroom34 hi034 hsz34; have KY34 := Aside0.mk hy34; clear hy34; replace q34 := eq_true q34; refine hK.out _ _ ⟨(blk_cell BK385.out 0).trans rfl, (blk_cell BK385.out 1).trans rfl, ((HB.out.cell (World.block_lt_of_cell? w _ hw387_0)).trans hw387_0), ((HB.out.cell (World.block_lt_of_cell? w _ hw387_1)).trans hw387_1)⟩ (fun hHeld => ?_)
                clear hK K; refine na_ (some 38) ?_; refine pa_ 15 (some 39) rfl rfl HT_ ?_; refine pa_ 16 (some 40) rfl rfl HT_ ?_; refine pa_ 17 (some 41) rfl rfl HT_ ?_; refine pa_ 18 (some 42) rfl rfl HT_ ?_; refine pa_ 19 (some 43) rfl rfl HT_ ?_; refine pa_ 20 (some 44) rfl rfl HT_ ?_; refine pa_ 21 (some 45) rfl rfl HT_ ?_; refine pa_ 22 (some 46) rfl rfl HT_ ?_; refine one_ (i := 23) (N := some 47) #[true, true, true, true, true, true, true, true, true, true, true, true, true, true, true, true, true, true, true, true, true, true, true, true, false] rfl rfl (one_of HT_.out (by kernel_rfl)) (by decide) (fun K hK => ?_)
                refine goes_ Tryz.func88 (by kernel_rfl) rfl #[.slice (some ad384) y389.length c1, .func (.func 89) #[] #[.pointer (some ⟨gb385, 0, none⟩)]] (by rfl) rfl rfl (by (try simp only [List.map_toArray, List.map_cons, List.map_nil]); first | done | rfl | (simp only [List.length_drop, List.length_take]; rfl)) ?_
                with_reducible refine (impl_Diagonal__at_impl_IsTriangulation_1.calls _ _ y389 gb385 ((rd_T80 l1 x19_2).f0) ((rd_T80 l1 x19_2).f1) true _ ?side1 ?side2 ?side3 A26.out).mono ?_
                (case side1 => exact cc_ (Kd.C_below HR392.out HB.out))
                (case side2 => exact HC392.out)
                (case side3 => (with_reducible repeat (first | refine blk_drewN ?_ _ | refine blk_drew ?_ | refine blk_alloc ?_ _)); exact BK385.out)
                rintro e w35 ⟨rfl, hb⟩
                refine ⟨_, rfl, ?_⟩; replace BK385 := Aside0.mk (blk_below (g := gb385) (o := .cells #[.int .i64 ((rd_T80 l1 x19_2).f0), .int .i64 ((rd_T80 l1 x19_2).f1)] 80 (0, 0)) (bk_ BK385.out) hb); replace HB := Aside0.mk (below_step (bs_ HB.out GE385.out) hb)
                (try clear hb)
                (try clear hb2)
                (try clear hk)
                (try clear hi)
                refine hK.out _ _ ⟨(blk_cell BK385.out 0).trans rfl, (blk_cell BK385.out 1).trans rfl, ((HB.out.cell (World.block_lt_of_cell? w _ hw387_0)).trans hw387_0), ((HB.out.cell (World.block_lt_of_cell? w _ hw387_1)).trans hw387_1)⟩ (fun hHeld => ?_)
                clear hK K; refine na_ (some 47) ?_; refine pa_ 24 (some 48) rfl rfl HT_ ?_; refine done_ (done_of HT_.out (by kernel_rfl)) ?_
                try go_wp2
                go_ret
                exact ⟨by first | rfl | (simp [errW_none, errW_some] <;> rfl) | (simp only [← hji13]; first | rfl | (simp [errW_none, errW_some] <;> rfl)) | (simp [*, errW_none, errW_some] <;> rfl), bs_ HB.out GE385.out⟩
               ·replace c27 := Bool.eq_false_iff.mpr c27
                subst c27; rw [if_neg (show ¬ (false = true) by decide)] at H
                have H' := Aside0.mk H; clear H; have p384 : 0 ≤ (x19_2 : Int) := of_decide_eq_true as_; have q384 : x19_2 < (l1.length : Int) := of_decide_eq_true as_; obtain ⟨ad384, e384, hx384_0, hx384_1⟩ := at_T80 HR1.out x19_2 p384 q384
                cases e384
                replace hx384_0 := (HB.out.cell (World.block_lt_of_cell? w _ hx384_0)).trans hx384_0; replace hx384_1 := (HB.out.cell (World.block_lt_of_cell? w _ hx384_1)).trans hx384_1; replace p384 := eq_true p384; replace q384 := eq_true q384
                try go_wp2_with (first | ((with_reducible refine gate_dst (N := 6) rfl ?_); (try (refine gate_guard (by rfl) ?_; dsimp only)); refine be_ #[.int .i64 0, .int .i64 0] 80 ?_; intro gb385 hg w36 hbox hb; have BK385 := Aside0.mk (hbox); have GW385 := Aside0.mk ((by rw [hg]; exact (below_size (bl_ HB.out)) : w.heap.size ≤ gb385)); have GE385 := Aside0.mk ((by rw [hg]; exact (below_size (bl_ HB.out)) : w.heap.size ≤ gb385)); replace HB := Aside0.mk (below_step (bl_ HB.out) hb); clear hb hbox hg; have hcz37_0 := cz_ BK385.out 0 (.int .i64 0); have hcz37_1 := cz_ BK385.out 1 (.int .i64 0); have hfz37_0 := blk_frozen BK385.out 0; have hfz37_1 := blk_frozen BK385.out 1))
                have n0_ : Aside0 (((w36.setCell ⟨gb385, 0, none⟩ (.int .i64 ((rd_T80 l1 x19_2).f0))).setCell ⟨gb385, 1, none⟩ (.int .i64 ((rd_T80 l1 x19_2).f1))).heap[gb385]? = some (.cells #[.int .i64 ((rd_T80 l1 x19_2).f0), .int .i64 ((rd_T80 l1 x19_2).f1)] 80 (0, 0))) := ⟨by (with_reducible repeat (first | refine blk_drewN ?_ _ | refine blk_drew ?_ | refine blk_alloc ?_ _)); refine blk_put (cs := #[.int .i64 ((rd_T80 l1 x19_2).f0), .int .i64 0]) ?_ 1 _ rfl; (with_reducible repeat (first | refine blk_drewN ?_ _ | refine blk_drew ?_ | refine blk_alloc ?_ _)); refine blk_put (cs := #[.int .i64 0, .int .i64 0]) ?_ 0 _ rfl; (with_reducible repeat (first | refine blk_drewN ?_ _ | refine blk_drew ?_ | refine blk_alloc ?_ _)); exact BK385.out⟩
                have n1_ : Aside0 (Below w.heap.size w ((w36.setCell ⟨gb385, 0, none⟩ (.int .i64 ((rd_T80 l1 x19_2).f0))).setCell ⟨gb385, 1, none⟩ (.int .i64 ((rd_T80 l1 x19_2).f1)))) := ⟨bs_ HB.out GE385.out⟩
                (try clear BK385)
                (try clear HB)
                generalize ((w36.setCell ⟨gb385, 0, none⟩ (.int .i64 ((rd_T80 l1 x19_2).f0))).setCell ⟨gb385, 1, none⟩ (.int .i64 ((rd_T80 l1 x19_2).f1))) = w38 at n0_ n1_ ⊢
                have BK385 := n0_; have HB := n1_; clear n0_ n1_; replace BK385 := Aside0.mk (blk_drew BK385.out); replace HB := Aside0.mk (below_drew1 HB.out); have p387 : 0 ≤ ((ji13) : Int) := of_decide_eq_true as_; have q387 : (ji13) < (l1.length : Int) := of_decide_eq_true as_; obtain ⟨ad387, e387, hx387_0, hx387_1⟩ := at_T80 HR1.out (ji13) p387 q387; have hw387_1 := hx387_1; have hw387_0 := hx387_0; obtain rfl : ad384 = ad387 := (by injection e387)
                replace hx387_0 := (HB.out.cell (World.block_lt_of_cell? w _ hx387_0)).trans hx387_0; replace hx387_1 := (HB.out.cell (World.block_lt_of_cell? w _ hx387_1)).trans hx387_1; replace p387 := eq_true p387; replace q387 := eq_true q387; refine start_ (n := 25) (S := fun w' => w'.cell? ⟨gb385, 0, none⟩ = some (.int .i64 ((rd_T80 l1 x19_2).f0)) ∧ w'.cell? ⟨gb385, 1, none⟩ = some (.int .i64 ((rd_T80 l1 x19_2).f1)) ∧ w'.cell? (ad384.add (((ji13)).toNat * 2)) = some (.int .i64 ((rd_T80 l1 (ji13)).f0)) ∧ w'.cell? ⟨(ad384.add (((ji13)).toNat * 2)).block, (ad384.add (((ji13)).toNat * 2)).off + 1, none⟩ = some (.int .i64 ((rd_T80 l1 (ji13)).f1))) (ds := []) #[false, false, false, false, false, false, false, false, false, false, false, false, false, false, false, false, false, false, false, false, false, false, false, false, false] (by kernel_rfl) rfl rfl ⟨(blk_cell BK385.out 0).trans rfl, (blk_cell BK385.out 1).trans rfl, ((HB.out.cell (World.block_lt_of_cell? w _ hw387_0)).trans hw387_0), ((HB.out.cell (World.block_lt_of_cell? w _ hw387_1)).trans hw387_1)⟩ (fun hHeld => ?_); refine with_tabW impl_IsTriangulation.tab6 impl_IsTriangulation.bits6 (fun HT_ HW_ => ?_)
                generalize w38.drew = w39 at BK385 HB hx387_0 hx387_1 hHeld ⊢
                refine pa_ 0 (some 24) rfl rfl HT_ ?_; refine ta0_ 1 (some 25) rfl rfl HT_ HW_ hHeld ?_; refine one_ (i := 2) (N := some 26) #[true, true, true, false, false, false, false, false, false, false, false, false, false, false, false, false, false, false, false, false, false, false, false, false, false] rfl rfl (one_of HT_.out (by kernel_rfl)) (by decide) (fun K hK => ?_)
                refine goes_ Tryz.func87 (by kernel_rfl) rfl #[.int .i64 a0, .agg #[.int .i64 ((rd_T80 l1 x19_2).f0), .int .i64 ((rd_T80 l1 x19_2).f1)]] (by rfl) rfl rfl (by (try simp only [List.map_toArray, List.map_cons, List.map_nil]); first | done | rfl | (simp only [List.length_drop, List.length_take]; rfl)) ?_
                with_reducible refine (impl_isDiagonal.calls a0 ((rd_T80 l1 x19_2).f0) ((rd_T80 l1 x19_2).f1) true _ A10.out).mono ?_
                rintro e w40 ⟨rfl, hb⟩
                refine ⟨_, rfl, ?_⟩; replace BK385 := Aside0.mk (blk_below (g := gb385) (o := .cells #[.int .i64 ((rd_T80 l1 x19_2).f0), .int .i64 ((rd_T80 l1 x19_2).f1)] 80 (0, 0)) (bk_ BK385.out) hb); replace HB := Aside0.mk (below_step (bs_ HB.out GE385.out) hb)
                (try clear hb)
                (try clear hb2)
                (try clear hk)
                (try clear hi)
                refine hK.out _ _ ⟨(blk_cell BK385.out 0).trans rfl, (blk_cell BK385.out 1).trans rfl, ((HB.out.cell (World.block_lt_of_cell? w _ hw387_0)).trans hw387_0), ((HB.out.cell (World.block_lt_of_cell? w _ hw387_1)).trans hw387_1)⟩ (fun hHeld => ?_)
                clear hK K; refine na_ (some 26) ?_; refine pa_ 3 (some 27) rfl rfl HT_ ?_; refine pa_ 4 (some 28) rfl rfl HT_ ?_; refine pa_ 5 (some 29) rfl rfl HT_ ?_; refine pa_ 6 (some 30) rfl rfl HT_ ?_; refine pa_ 7 (some 31) rfl rfl HT_ ?_; refine pa_ 8 (some 32) rfl rfl HT_ ?_; refine pa_ 9 (some 33) rfl rfl HT_ ?_; refine pa_ 10 (some 34) rfl rfl HT_ ?_; refine pa_ 11 (some 35) rfl rfl HT_ ?_; refine ta0_ 12 (some 36) rfl rfl HT_ HW_ hHeld ?_; refine ta0_ 13 (some 37) rfl rfl HT_ HW_ hHeld ?_; refine one_ (i := 14) (N := some 38) #[true, true, true, true, true, true, true, true, true, true, true, true, true, true, true, false, false, false, false, false, false, false, false, false, false] rfl rfl (one_of HT_.out (by kernel_rfl)) (by decide) (fun K hK => ?_)
                refine goes_ Tryz.func78 (by kernel_rfl) rfl #[.agg #[.int .i64 ((rd_T80 l1 (ji13)).f0), .int .i64 ((rd_T80 l1 (ji13)).f1)], .agg #[.int .i64 ((rd_T80 l1 x19_2).f0), .int .i64 ((rd_T80 l1 x19_2).f1)]] (by rfl) rfl rfl (by (try simp only [List.map_toArray, List.map_cons, List.map_nil]); first | done | (simp only [hji13]; rfl) | rfl | (simp only [List.length_drop, List.length_take]; rfl)) ?_
                with_reducible refine (impl_compareDiagonals.calls k2 ((rd_T80 l1 (ji13)).f0) ((rd_T80 l1 (ji13)).f1) ((rd_T80 l1 x19_2).f0) ((rd_T80 l1 x19_2).f1) t388 _ A16.out).mono ?_
                rintro e w41 ⟨rfl, hb⟩
                refine ⟨_, rfl, ?_⟩; replace BK385 := Aside0.mk (blk_below (g := gb385) (o := .cells #[.int .i64 ((rd_T80 l1 x19_2).f0), .int .i64 ((rd_T80 l1 x19_2).f1)] 80 (0, 0)) (bk_ BK385.out) hb); replace HB := Aside0.mk (below_step (bs_ HB.out GE385.out) hb)
                (try clear hb)
                (try clear hb2)
                (try clear hk)
                (try clear hi)
                have q42 : (x19_2 : Int) ≤ ((l1.length : Int) : Int) := of_decide_eq_true as_; obtain ⟨i042, hi042, _, hsz42, _⟩ := info_parts info80; have hroom42 : l1.length ≤ c1 := HC1.out; have hC42 : Kd.C k80 _ (some ad384) l1.length l1 := HR1.out; have hcut42 := cut_to (P := Tryz.prog) 71 80 .i64 Tryz.underlying71 hi042 (some ad384) l1.length c1 x19_2 (of_decide_eq_true as_) q42 hroom42; have hr42 := Kd.C_take (m := (x19_2 : Int).toNat) hC42 (by omega)
                have hy42 : y389.length = (x19_2 : Int).toNat := (by rw [Ny389.out, List.length_take]; omega)
                rw [← Ny389.out] at hr42
                rw [← hy42] at hcut42
                have HR392 := Aside0.mk hr42; have HC392 := Aside0.mk (show y389.length ≤ c1 from by omega)
                clear hr42 hC42 hroom42 hi042 hsz42; have KY42 := Aside0.mk hy42; clear hy42; replace q42 := eq_true q42; refine hK.out _ _ ⟨(blk_cell BK385.out 0).trans rfl, (blk_cell BK385.out 1).trans rfl, ((HB.out.cell (World.block_lt_of_cell? w _ hw387_0)).trans hw387_0), ((HB.out.cell (World.block_lt_of_cell? w _ hw387_1)).trans hw387_1)⟩ (fun hHeld => ?_)
                clear hK K; refine na_ (some 38) ?_; refine pa_ 15 (some 39) rfl rfl HT_ ?_; refine pa_ 16 (some 40) rfl rfl HT_ ?_; refine pa_ 17 (some 41) rfl rfl HT_ ?_; refine pa_ 18 (some 42) rfl rfl HT_ ?_; refine pa_ 19 (some 43) rfl rfl HT_ ?_; refine pa_ 20 (some 44) rfl rfl HT_ ?_; refine pa_ 21 (some 45) rfl rfl HT_ ?_; refine pa_ 22 (some 46) rfl rfl HT_ ?_; refine one_ (i := 23) (N := some 47) #[true, true, true, true, true, true, true, true, true, true, true, true, true, true, true, true, true, true, true, true, true, true, true, true, false] rfl rfl (one_of HT_.out (by kernel_rfl)) (by decide) (fun K hK => ?_)
                refine goes_ Tryz.func88 (by kernel_rfl) rfl #[.slice (some ad384) y389.length c1, .func (.func 89) #[] #[.pointer (some ⟨gb385, 0, none⟩)]] (by rfl) rfl rfl (by (try simp only [List.map_toArray, List.map_cons, List.map_nil]); first | done | rfl | (simp only [List.length_drop, List.length_take]; rfl)) ?_
                with_reducible refine (impl_Diagonal__at_impl_IsTriangulation_1.calls _ _ y389 gb385 ((rd_T80 l1 x19_2).f0) ((rd_T80 l1 x19_2).f1) false _ ?side1 ?side2 ?side3 A26.out).mono ?_
                (case side1 => exact cc_ (Kd.C_below HR392.out HB.out))
                (case side2 => exact HC392.out)
                (case side3 => (with_reducible repeat (first | refine blk_drewN ?_ _ | refine blk_drew ?_ | refine blk_alloc ?_ _)); exact BK385.out)
                rintro e w43 ⟨rfl, hb⟩
                refine ⟨_, rfl, ?_⟩; replace BK385 := Aside0.mk (blk_below (g := gb385) (o := .cells #[.int .i64 ((rd_T80 l1 x19_2).f0), .int .i64 ((rd_T80 l1 x19_2).f1)] 80 (0, 0)) (bk_ BK385.out) hb); replace HB := Aside0.mk (below_step (bs_ HB.out GE385.out) hb)
                (try clear hb)
                (try clear hb2)
                (try clear hk)
                (try clear hi)
                refine hK.out _ _ ⟨(blk_cell BK385.out 0).trans rfl, (blk_cell BK385.out 1).trans rfl, ((HB.out.cell (World.block_lt_of_cell? w _ hw387_0)).trans hw387_0), ((HB.out.cell (World.block_lt_of_cell? w _ hw387_1)).trans hw387_1)⟩ (fun hHeld => ?_)
                clear hK K; refine na_ (some 47) ?_; refine pa_ 24 (some 48) rfl rfl HT_ ?_; refine done_ (done_of HT_.out (by kernel_rfl)) ?_
                try go_wp2
                go_roundg k2
                case measure => have := HJ2.out; have := HK2.out; omega
                case rel => exact ⟨(wrap64 (x19_2 + 1)), (fs_), H', ⟨by have := HJ2.out; have := HK2.out; omega⟩, ⟨bs_ HB.out GE385.out⟩⟩
              ·rw [if_neg c25] at H
               exact absurd H (by simp)
            ·rw [if_neg c15] at H
             exact absurd H (by simp)
           ·rw [if_neg c14] at H
            exact absurd H (by simp)
          ·rw [if_neg c12] at H
           have c12b0 : decide (0 < x19_2) = false := decide_eq_false c12; clear c12; have c44b0 := eq_true (of_decide_eq_true as_ : 0 ≤ x19_2)
           by_cases c45 : x19_2 ≤ (l1.length : Int)
           ·rw [if_pos c45] at H
            have c45b0 := eq_true c45; have c45b1 : decide (x19_2 ≤ (l1.length : Int)) = true := decide_eq_true c45; clear c45; obtain ⟨y394, hy394⟩ : ∃ y_ : List (S80), y_ = (l1.take (x19_2 : Int).toNat) := ⟨_, rfl⟩; replace H : ((impl_Diagonal__at_impl_IsTriangulation_1.f y394 ((rd_T80 l1 x19_2).f0) ((rd_T80 l1 x19_2).f1)).bind fun t398 => (if t398 = true then (some false) else (impl_IsTriangulation.l0 k2 a0 l1 l1 (l1.length : Int) (wrap64 (x19_2 + 1))))) = some r := rh_ hy394 H
            have Ny394 := Aside0.mk hy394; clear hy394; replace H := Option.bind_eq_some_iff.mp H; obtain ⟨t398, A460, H⟩ := H; have A46 := Aside0.mk A460; clear A460
            by_cases c47 : t398 = true
            ·subst c47
             rw [if_pos rfl] at H
             obtain rfl := Option.some.inj H; have p384 : 0 ≤ (x19_2 : Int) := of_decide_eq_true as_; have q384 : x19_2 < (l1.length : Int) := of_decide_eq_true as_; obtain ⟨ad384, e384, hx384_0, hx384_1⟩ := at_T80 HR1.out x19_2 p384 q384
             cases e384
             replace hx384_0 := (HB.out.cell (World.block_lt_of_cell? w _ hx384_0)).trans hx384_0; replace hx384_1 := (HB.out.cell (World.block_lt_of_cell? w _ hx384_1)).trans hx384_1; replace p384 := eq_true p384; replace q384 := eq_true q384
             try go_wp2_with (first | ((with_reducible refine gate_dst (N := 6) rfl ?_); (try (refine gate_guard (by rfl) ?_; dsimp only)); refine be_ #[.int .i64 0, .int .i64 0] 80 ?_; intro gb385 hg w48 hbox hb; have BK385 := Aside0.mk (hbox); have GW385 := Aside0.mk ((by rw [hg]; exact (below_size (bl_ HB.out)) : w.heap.size ≤ gb385)); have GE385 := Aside0.mk ((by rw [hg]; exact (below_size (bl_ HB.out)) : w.heap.size ≤ gb385)); replace HB := Aside0.mk (below_step (bl_ HB.out) hb); clear hb hbox hg; have hcz49_0 := cz_ BK385.out 0 (.int .i64 0); have hcz49_1 := cz_ BK385.out 1 (.int .i64 0); have hfz49_0 := blk_frozen BK385.out 0; have hfz49_1 := blk_frozen BK385.out 1))
             have n0_ : Aside0 (((w48.setCell ⟨gb385, 0, none⟩ (.int .i64 ((rd_T80 l1 x19_2).f0))).setCell ⟨gb385, 1, none⟩ (.int .i64 ((rd_T80 l1 x19_2).f1))).heap[gb385]? = some (.cells #[.int .i64 ((rd_T80 l1 x19_2).f0), .int .i64 ((rd_T80 l1 x19_2).f1)] 80 (0, 0))) := ⟨by (with_reducible repeat (first | refine blk_drewN ?_ _ | refine blk_drew ?_ | refine blk_alloc ?_ _)); refine blk_put (cs := #[.int .i64 ((rd_T80 l1 x19_2).f0), .int .i64 0]) ?_ 1 _ rfl; (with_reducible repeat (first | refine blk_drewN ?_ _ | refine blk_drew ?_ | refine blk_alloc ?_ _)); refine blk_put (cs := #[.int .i64 0, .int .i64 0]) ?_ 0 _ rfl; (with_reducible repeat (first | refine blk_drewN ?_ _ | refine blk_drew ?_ | refine blk_alloc ?_ _)); exact BK385.out⟩
             have n1_ : Aside0 (Below w.heap.size w ((w48.setCell ⟨gb385, 0, none⟩ (.int .i64 ((rd_T80 l1 x19_2).f0))).setCell ⟨gb385, 1, none⟩ (.int .i64 ((rd_T80 l1 x19_2).f1)))) := ⟨bs_ HB.out GE385.out⟩
             (try clear BK385)
             (try clear HB)
             generalize ((w48.setCell ⟨gb385, 0, none⟩ (.int .i64 ((rd_T80 l1 x19_2).f0))).setCell ⟨gb385, 1, none⟩ (.int .i64 ((rd_T80 l1 x19_2).f1))) = w50 at n0_ n1_ ⊢
             have BK385 := n0_; have HB := n1_; clear n0_ n1_; replace BK385 := Aside0.mk (blk_drew BK385.out); replace HB := Aside0.mk (below_drew1 HB.out); refine start_ (n := 25) (S := fun w' => w'.cell? ⟨gb385, 0, none⟩ = some (.int .i64 ((rd_T80 l1 x19_2).f0)) ∧ w'.cell? ⟨gb385, 1, none⟩ = some (.int .i64 ((rd_T80 l1 x19_2).f1))) (ds := []) #[false, false, false, false, false, false, false, false, false, false, false, false, false, false, false, false, false, false, false, false, false, false, false, false, false] (by kernel_rfl) rfl rfl ⟨(blk_cell BK385.out 0).trans rfl, (blk_cell BK385.out 1).trans rfl⟩ (fun hHeld => ?_); refine with_tabW impl_IsTriangulation.tab6 impl_IsTriangulation.bits6 (fun HT_ HW_ => ?_)
             generalize w50.drew = w51 at BK385 HB hHeld ⊢
             refine pa_ 0 (some 24) rfl rfl HT_ ?_; refine ta1_ 1 (some 25) rfl rfl HT_ HW_ hHeld ?_; refine one_ (i := 2) (N := some 26) #[true, true, true, false, false, false, false, false, false, false, false, false, false, false, false, false, false, false, false, false, false, false, false, false, false] rfl rfl (one_of HT_.out (by kernel_rfl)) (by decide) (fun K hK => ?_)
             refine goes_ Tryz.func87 (by kernel_rfl) rfl #[.int .i64 a0, .agg #[.int .i64 ((rd_T80 l1 x19_2).f0), .int .i64 ((rd_T80 l1 x19_2).f1)]] (by rfl) rfl rfl (by (try simp only [List.map_toArray, List.map_cons, List.map_nil]); first | done | rfl | (simp only [List.length_drop, List.length_take]; rfl)) ?_
             with_reducible refine (impl_isDiagonal.calls a0 ((rd_T80 l1 x19_2).f0) ((rd_T80 l1 x19_2).f1) true _ A10.out).mono ?_
             rintro e w52 ⟨rfl, hb⟩
             refine ⟨_, rfl, ?_⟩; replace BK385 := Aside0.mk (blk_below (g := gb385) (o := .cells #[.int .i64 ((rd_T80 l1 x19_2).f0), .int .i64 ((rd_T80 l1 x19_2).f1)] 80 (0, 0)) (bk_ BK385.out) hb); replace HB := Aside0.mk (below_step (bs_ HB.out GE385.out) hb)
             (try clear hb)
             (try clear hb2)
             (try clear hk)
             (try clear hi)
             have q53 : (x19_2 : Int) ≤ ((l1.length : Int) : Int) := of_decide_eq_true as_; obtain ⟨i053, hi053, _, hsz53, _⟩ := info_parts info80; have hroom53 : l1.length ≤ c1 := HC1.out; have hC53 : Kd.C k80 _ (some ad384) l1.length l1 := HR1.out; have hcut53 := cut_to (P := Tryz.prog) 71 80 .i64 Tryz.underlying71 hi053 (some ad384) l1.length c1 x19_2 (of_decide_eq_true as_) q53 hroom53; have hr53 := Kd.C_take (m := (x19_2 : Int).toNat) hC53 (by omega)
             have hy53 : y394.length = (x19_2 : Int).toNat := (by rw [Ny394.out, List.length_take]; omega)
             rw [← Ny394.out] at hr53
             rw [← hy53] at hcut53
             have HR397 := Aside0.mk hr53; have HC397 := Aside0.mk (show y394.length ≤ c1 from by omega)
             clear hr53 hC53 hroom53 hi053 hsz53; have KY53 := Aside0.mk hy53; clear hy53; replace q53 := eq_true q53; refine hK.out _ _ ⟨(blk_cell BK385.out 0).trans rfl, (blk_cell BK385.out 1).trans rfl⟩ (fun hHeld => ?_)
             clear hK K; refine na_ (some 26) ?_; refine pa_ 3 (some 27) rfl rfl HT_ ?_; refine pa_ 4 (some 28) rfl rfl HT_ ?_; refine pa_ 5 (some 29) rfl rfl HT_ ?_; refine pa_ 6 (some 30) rfl rfl HT_ ?_; refine pa_ 7 (some 31) rfl rfl HT_ ?_; refine pb_ 8 (some 32) rfl rfl HT_ ?_; refine pb_ 9 (some 33) rfl rfl HT_ ?_; refine pb_ 10 (some 34) rfl rfl HT_ ?_; refine pb_ 11 (some 35) rfl rfl HT_ ?_; refine pb_ 12 (some 36) rfl rfl HT_ ?_; refine pb_ 13 (some 37) rfl rfl HT_ ?_; refine pb_ 14 (some 38) rfl rfl HT_ ?_; refine pb_ 15 (some 39) rfl rfl HT_ ?_; refine pa_ 16 (some 40) rfl rfl HT_ ?_; refine pa_ 17 (some 41) rfl rfl HT_ ?_; refine pa_ 18 (some 42) rfl rfl HT_ ?_; refine pa_ 19 (some 43) rfl rfl HT_ ?_; refine pa_ 20 (some 44) rfl rfl HT_ ?_; refine pa_ 21 (some 45) rfl rfl HT_ ?_; refine pa_ 22 (some 46) rfl rfl HT_ ?_; refine one_ (i := 23) (N := some 47) #[true, true, true, true, true, true, true, true, true, true, true, true, true, true, true, true, true, true, true, true, true, true, true, true, false] rfl rfl (one_of HT_.out (by kernel_rfl)) (by decide) (fun K hK => ?_)
             refine goes_ Tryz.func88 (by kernel_rfl) rfl #[.slice (some ad384) y394.length c1, .func (.func 89) #[] #[.pointer (some ⟨gb385, 0, none⟩)]] (by rfl) rfl rfl (by (try simp only [List.map_toArray, List.map_cons, List.map_nil]); first | done | rfl | (simp only [List.length_drop, List.length_take]; rfl)) ?_
             with_reducible refine (impl_Diagonal__at_impl_IsTriangulation_1.calls _ _ y394 gb385 ((rd_T80 l1 x19_2).f0) ((rd_T80 l1 x19_2).f1) true _ ?side1 ?side2 ?side3 A46.out).mono ?_
             (case side1 => exact cc_ (Kd.C_below HR397.out HB.out))
             (case side2 => exact HC397.out)
             (case side3 => (with_reducible repeat (first | refine blk_drewN ?_ _ | refine blk_drew ?_ | refine blk_alloc ?_ _)); exact BK385.out)
             rintro e w54 ⟨rfl, hb⟩
             refine ⟨_, rfl, ?_⟩; replace BK385 := Aside0.mk (blk_below (g := gb385) (o := .cells #[.int .i64 ((rd_T80 l1 x19_2).f0), .int .i64 ((rd_T80 l1 x19_2).f1)] 80 (0, 0)) (bk_ BK385.out) hb); replace HB := Aside0.mk (below_step (bs_ HB.out GE385.out) hb)
             (try clear hb)
             (try clear hb2)
             (try clear hk)
             (try clear hi)
             refine hK.out _ _ ⟨(blk_cell BK385.out 0).trans rfl, (blk_cell BK385.out 1).trans rfl⟩ (fun hHeld => ?_)
             clear hK K; refine na_ (some 47) ?_; refine pa_ 24 (some 48) rfl rfl HT_ ?_; refine done_ (done_of HT_.out (by kernel_rfl)) ?_
             try go_wp2
             go_ret
             exact ⟨by first | rfl | (simp [errW_none, errW_some] <;> rfl) | (simp [*, errW_none, errW_some] <;> rfl), bs_ HB.out GE385.out⟩
            ·replace c47 := Bool.eq_false_iff.mpr c47
             subst c47; rw [if_neg (show ¬ (false = true) by decide)] at H
             have H' := Aside0.mk H; clear H; have p384 : 0 ≤ (x19_2 : Int) := of_decide_eq_true as_; have q384 : x19_2 < (l1.length : Int) := of_decide_eq_true as_; obtain ⟨ad384, e384, hx384_0, hx384_1⟩ := at_T80 HR1.out x19_2 p384 q384
             cases e384
             replace hx384_0 := (HB.out.cell (World.block_lt_of_cell? w _ hx384_0)).trans hx384_0; replace hx384_1 := (HB.out.cell (World.block_lt_of_cell? w _ hx384_1)).trans hx384_1; replace p384 := eq_true p384; replace q384 := eq_true q384
             try go_wp2_with (first | ((with_reducible refine gate_dst (N := 6) rfl ?_); (try (refine gate_guard (by rfl) ?_; dsimp only)); refine be_ #[.int .i64 0, .int .i64 0] 80 ?_; intro gb385 hg w55 hbox hb; have BK385 := Aside0.mk (hbox); have GW385 := Aside0.mk ((by rw [hg]; exact (below_size (bl_ HB.out)) : w.heap.size ≤ gb385)); have GE385 := Aside0.mk ((by rw [hg]; exact (below_size (bl_ HB.out)) : w.heap.size ≤ gb385)); replace HB := Aside0.mk (below_step (bl_ HB.out) hb); clear hb hbox hg; have hcz56_0 := cz_ BK385.out 0 (.int .i64 0); have hcz56_1 := cz_ BK385.out 1 (.int .i64 0); have hfz56_0 := blk_frozen BK385.out 0; have hfz56_1 := blk_frozen BK385.out 1))
             have n0_ : Aside0 (((w55.setCell ⟨gb385, 0, none⟩ (.int .i64 ((rd_T80 l1 x19_2).f0))).setCell ⟨gb385, 1, none⟩ (.int .i64 ((rd_T80 l1 x19_2).f1))).heap[gb385]? = some (.cells #[.int .i64 ((rd_T80 l1 x19_2).f0), .int .i64 ((rd_T80 l1 x19_2).f1)] 80 (0, 0))) := ⟨by (with_reducible repeat (first | refine blk_drewN ?_ _ | refine blk_drew ?_ | refine blk_alloc ?_ _)); refine blk_put (cs := #[.int .i64 ((rd_T80 l1 x19_2).f0), .int .i64 0]) ?_ 1 _ rfl; (with_reducible repeat (first | refine blk_drewN ?_ _ | refine blk_drew ?_ | refine blk_alloc ?_ _)); refine blk_put (cs := #[.int .i64 0, .int .i64 0]) ?_ 0 _ rfl; (with_reducible repeat (first | refine blk_drewN ?_ _ | refine blk_drew ?_ | refine blk_alloc ?_ _)); exact BK385.out⟩
             have n1_ : Aside0 (Below w.heap.size w ((w55.setCell ⟨gb385, 0, none⟩ (.int .i64 ((rd_T80 l1 x19_2).f0))).setCell ⟨gb385, 1, none⟩ (.int .i64 ((rd_T80 l1 x19_2).f1)))) := ⟨bs_ HB.out GE385.out⟩
             (try clear BK385)
             (try clear HB)
             generalize ((w55.setCell ⟨gb385, 0, none⟩ (.int .i64 ((rd_T80 l1 x19_2).f0))).setCell ⟨gb385, 1, none⟩ (.int .i64 ((rd_T80 l1 x19_2).f1))) = w57 at n0_ n1_ ⊢
             have BK385 := n0_; have HB := n1_; clear n0_ n1_; replace BK385 := Aside0.mk (blk_drew BK385.out); replace HB := Aside0.mk (below_drew1 HB.out); refine start_ (n := 25) (S := fun w' => w'.cell? ⟨gb385, 0, none⟩ = some (.int .i64 ((rd_T80 l1 x19_2).f0)) ∧ w'.cell? ⟨gb385, 1, none⟩ = some (.int .i64 ((rd_T80 l1 x19_2).f1))) (ds := []) #[false, false, false, false, false, false, false, false, false, false, false, false, false, false, false, false, false, false, false, false, false, false, false, false, false] (by kernel_rfl) rfl rfl ⟨(blk_cell BK385.out 0).trans rfl, (blk_cell BK385.out 1).trans rfl⟩ (fun hHeld => ?_); refine with_tabW impl_IsTriangulation.tab6 impl_IsTriangulation.bits6 (fun HT_ HW_ => ?_)
             generalize w57.drew = w58 at BK385 HB hHeld ⊢
             refine pa_ 0 (some 24) rfl rfl HT_ ?_; refine ta1_ 1 (some 25) rfl rfl HT_ HW_ hHeld ?_; refine one_ (i := 2) (N := some 26) #[true, true, true, false, false, false, false, false, false, false, false, false, false, false, false, false, false, false, false, false, false, false, false, false, false] rfl rfl (one_of HT_.out (by kernel_rfl)) (by decide) (fun K hK => ?_)
             refine goes_ Tryz.func87 (by kernel_rfl) rfl #[.int .i64 a0, .agg #[.int .i64 ((rd_T80 l1 x19_2).f0), .int .i64 ((rd_T80 l1 x19_2).f1)]] (by rfl) rfl rfl (by (try simp only [List.map_toArray, List.map_cons, List.map_nil]); first | done | rfl | (simp only [List.length_drop, List.length_take]; rfl)) ?_
             with_reducible refine (impl_isDiagonal.calls a0 ((rd_T80 l1 x19_2).f0) ((rd_T80 l1 x19_2).f1) true _ A10.out).mono ?_
             rintro e w59 ⟨rfl, hb⟩
             refine ⟨_, rfl, ?_⟩; replace BK385 := Aside0.mk (blk_below (g := gb385) (o := .cells #[.int .i64 ((rd_T80 l1 x19_2).f0), .int .i64 ((rd_T80 l1 x19_2).f1)] 80 (0, 0)) (bk_ BK385.out) hb); replace HB := Aside0.mk (below_step (bs_ HB.out GE385.out) hb)
             (try clear hb)
             (try clear hb2)
             (try clear hk)
             (try clear hi)
             have q60 : (x19_2 : Int) ≤ ((l1.length : Int) : Int) := of_decide_eq_true as_; obtain ⟨i060, hi060, _, hsz60, _⟩ := info_parts info80; have hroom60 : l1.length ≤ c1 := HC1.out; have hC60 : Kd.C k80 _ (some ad384) l1.length l1 := HR1.out; have hcut60 := cut_to (P := Tryz.prog) 71 80 .i64 Tryz.underlying71 hi060 (some ad384) l1.length c1 x19_2 (of_decide_eq_true as_) q60 hroom60; have hr60 := Kd.C_take (m := (x19_2 : Int).toNat) hC60 (by omega)
             have hy60 : y394.length = (x19_2 : Int).toNat := (by rw [Ny394.out, List.length_take]; omega)
             rw [← Ny394.out] at hr60
             rw [← hy60] at hcut60
             have HR397 := Aside0.mk hr60; have HC397 := Aside0.mk (show y394.length ≤ c1 from by omega)
             clear hr60 hC60 hroom60 hi060 hsz60; have KY60 := Aside0.mk hy60; clear hy60; replace q60 := eq_true q60; refine hK.out _ _ ⟨(blk_cell BK385.out 0).trans rfl, (blk_cell BK385.out 1).trans rfl⟩ (fun hHeld => ?_)
             clear hK K; refine na_ (some 26) ?_; refine pa_ 3 (some 27) rfl rfl HT_ ?_; refine pa_ 4 (some 28) rfl rfl HT_ ?_; refine pa_ 5 (some 29) rfl rfl HT_ ?_; refine pa_ 6 (some 30) rfl rfl HT_ ?_; refine pa_ 7 (some 31) rfl rfl HT_ ?_; refine pb_ 8 (some 32) rfl rfl HT_ ?_; refine pb_ 9 (some 33) rfl rfl HT_ ?_; refine pb_ 10 (some 34) rfl rfl HT_ ?_; refine pb_ 11 (some 35) rfl rfl HT_ ?_; refine pb_ 12 (some 36) rfl rfl HT_ ?_; refine pb_ 13 (some 37) rfl rfl HT_ ?_; refine pb_ 14 (some 38) rfl rfl HT_ ?_; refine pb_ 15 (some 39) rfl rfl HT_ ?_; refine pa_ 16 (some 40) rfl rfl HT_ ?_; refine pa_ 17 (some 41) rfl rfl HT_ ?_; refine pa_ 18 (some 42) rfl rfl HT_ ?_; refine pa_ 19 (some 43) rfl rfl HT_ ?_; refine pa_ 20 (some 44) rfl rfl HT_ ?_; refine pa_ 21 (some 45) rfl rfl HT_ ?_; refine pa_ 22 (some 46) rfl rfl HT_ ?_; refine one_ (i := 23) (N := some 47) #[true, true, true, true, true, true, true, true, true, true, true, true, true, true, true, true, true, true, true, true, true, true, true, true, false] rfl rfl (one_of HT_.out (by kernel_rfl)) (by decide) (fun K hK => ?_)
             refine goes_ Tryz.func88 (by kernel_rfl) rfl #[.slice (some ad384) y394.length c1, .func (.func 89) #[] #[.pointer (some ⟨gb385, 0, none⟩)]] (by rfl) rfl rfl (by (try simp only [List.map_toArray, List.map_cons, List.map_nil]); first | done | rfl | (simp only [List.length_drop, List.length_take]; rfl)) ?_
             with_reducible refine (impl_Diagonal__at_impl_IsTriangulation_1.calls _ _ y394 gb385 ((rd_T80 l1 x19_2).f0) ((rd_T80 l1 x19_2).f1) false _ ?side1 ?side2 ?side3 A46.out).mono ?_
             (case side1 => exact cc_ (Kd.C_below HR397.out HB.out))
             (case side2 => exact HC397.out)
             (case side3 => (with_reducible repeat (first | refine blk_drewN ?_ _ | refine blk_drew ?_ | refine blk_alloc ?_ _)); exact BK385.out)
             rintro e w61 ⟨rfl, hb⟩
             refine ⟨_, rfl, ?_⟩; replace BK385 := Aside0.mk (blk_below (g := gb385) (o := .cells #[.int .i64 ((rd_T80 l1 x19_2).f0), .int .i64 ((rd_T80 l1 x19_2).f1)] 80 (0, 0)) (bk_ BK385.out) hb); replace HB := Aside0.mk (below_step (bs_ HB.out GE385.out) hb)
             (try clear hb)
             (try clear hb2)
             (try clear hk)
             (try clear hi)
             refine hK.out _ _ ⟨(blk_cell BK385.out 0).trans rfl, (blk_cell BK385.out 1).trans rfl⟩ (fun hHeld => ?_)
             clear hK K; refine na_ (some 47) ?_; refine pa_ 24 (some 48) rfl rfl HT_ ?_; refine done_ (done_of HT_.out (by kernel_rfl)) ?_
             try go_wp2
             go_roundg k2
             case measure => have := HJ2.out; have := HK2.out; omega
             case rel => exact ⟨(wrap64 (x19_2 + 1)), (fs_), H', ⟨by have := HJ2.out; have := HK2.out; omega⟩, ⟨bs_ HB.out GE385.out⟩⟩
           ·rw [if_neg c45] at H
            exact absurd H (by simp)
         ·replace c11 := Bool.eq_false_iff.mpr c11
          subst c11; rw [if_neg (show ¬ (false = true) by decide)] at H
          obtain rfl := Option.some.inj H; have p384 : 0 ≤ (x19_2 : Int) := of_decide_eq_true as_; have q384 : x19_2 < (l1.length : Int) := of_decide_eq_true as_; obtain ⟨ad384, e384, hx384_0, hx384_1⟩ := at_T80 HR1.out x19_2 p384 q384
          cases e384
          replace hx384_0 := (HB.out.cell (World.block_lt_of_cell? w _ hx384_0)).trans hx384_0; replace hx384_1 := (HB.out.cell (World.block_lt_of_cell? w _ hx384_1)).trans hx384_1; replace p384 := eq_true p384; replace q384 := eq_true q384
          try go_wp2_with (first | ((with_reducible refine gate_dst (N := 6) rfl ?_); (try (refine gate_guard (by rfl) ?_; dsimp only)); refine be_ #[.int .i64 0, .int .i64 0] 80 ?_; intro gb385 hg w62 hbox hb; have BK385 := Aside0.mk (hbox); have GW385 := Aside0.mk ((by rw [hg]; exact (below_size (bl_ HB.out)) : w.heap.size ≤ gb385)); have GE385 := Aside0.mk ((by rw [hg]; exact (below_size (bl_ HB.out)) : w.heap.size ≤ gb385)); replace HB := Aside0.mk (below_step (bl_ HB.out) hb); clear hb hbox hg; have hcz63_0 := cz_ BK385.out 0 (.int .i64 0); have hcz63_1 := cz_ BK385.out 1 (.int .i64 0); have hfz63_0 := blk_frozen BK385.out 0; have hfz63_1 := blk_frozen BK385.out 1))
          have n0_ : Aside0 (((w62.setCell ⟨gb385, 0, none⟩ (.int .i64 ((rd_T80 l1 x19_2).f0))).setCell ⟨gb385, 1, none⟩ (.int .i64 ((rd_T80 l1 x19_2).f1))).heap[gb385]? = some (.cells #[.int .i64 ((rd_T80 l1 x19_2).f0), .int .i64 ((rd_T80 l1 x19_2).f1)] 80 (0, 0))) := ⟨by (with_reducible repeat (first | refine blk_drewN ?_ _ | refine blk_drew ?_ | refine blk_alloc ?_ _)); refine blk_put (cs := #[.int .i64 ((rd_T80 l1 x19_2).f0), .int .i64 0]) ?_ 1 _ rfl; (with_reducible repeat (first | refine blk_drewN ?_ _ | refine blk_drew ?_ | refine blk_alloc ?_ _)); refine blk_put (cs := #[.int .i64 0, .int .i64 0]) ?_ 0 _ rfl; (with_reducible repeat (first | refine blk_drewN ?_ _ | refine blk_drew ?_ | refine blk_alloc ?_ _)); exact BK385.out⟩
          have n1_ : Aside0 (Below w.heap.size w ((w62.setCell ⟨gb385, 0, none⟩ (.int .i64 ((rd_T80 l1 x19_2).f0))).setCell ⟨gb385, 1, none⟩ (.int .i64 ((rd_T80 l1 x19_2).f1)))) := ⟨bs_ HB.out GE385.out⟩
          (try clear BK385)
          (try clear HB)
          generalize ((w62.setCell ⟨gb385, 0, none⟩ (.int .i64 ((rd_T80 l1 x19_2).f0))).setCell ⟨gb385, 1, none⟩ (.int .i64 ((rd_T80 l1 x19_2).f1))) = w64 at n0_ n1_ ⊢
          have BK385 := n0_; have HB := n1_; clear n0_ n1_; replace BK385 := Aside0.mk (blk_drew BK385.out); replace HB := Aside0.mk (below_drew1 HB.out); refine start_ (n := 25) (S := fun w' => w'.cell? ⟨gb385, 0, none⟩ = some (.int .i64 ((rd_T80 l1 x19_2).f0)) ∧ w'.cell? ⟨gb385, 1, none⟩ = some (.int .i64 ((rd_T80 l1 x19_2).f1))) (ds := []) #[false, false, false, false, false, false, false, false, false, false, false, false, false, false, false, false, false, false, false, false, false, false, false, false, false] (by kernel_rfl) rfl rfl ⟨(blk_cell BK385.out 0).trans rfl, (blk_cell BK385.out 1).trans rfl⟩ (fun hHeld => ?_); refine with_tabW impl_IsTriangulation.tab6 impl_IsTriangulation.bits6 (fun HT_ HW_ => ?_)
          generalize w64.drew = w65 at BK385 HB hHeld ⊢
          refine pa_ 0 (some 24) rfl rfl HT_ ?_; refine ta1_ 1 (some 25) rfl rfl HT_ HW_ hHeld ?_; refine one_ (i := 2) (N := some 26) #[true, true, true, false, false, false, false, false, false, false, false, false, false, false, false, false, false, false, false, false, false, false, false, false, false] rfl rfl (one_of HT_.out (by kernel_rfl)) (by decide) (fun K hK => ?_)
          refine goes_ Tryz.func87 (by kernel_rfl) rfl #[.int .i64 a0, .agg #[.int .i64 ((rd_T80 l1 x19_2).f0), .int .i64 ((rd_T80 l1 x19_2).f1)]] (by rfl) rfl rfl (by (try simp only [List.map_toArray, List.map_cons, List.map_nil]); first | done | rfl | (simp only [List.length_drop, List.length_take]; rfl)) ?_
          with_reducible refine (impl_isDiagonal.calls a0 ((rd_T80 l1 x19_2).f0) ((rd_T80 l1 x19_2).f1) false _ A10.out).mono ?_
          rintro e w66 ⟨rfl, hb⟩
          refine ⟨_, rfl, ?_⟩; replace BK385 := Aside0.mk (blk_below (g := gb385) (o := .cells #[.int .i64 ((rd_T80 l1 x19_2).f0), .int .i64 ((rd_T80 l1 x19_2).f1)] 80 (0, 0)) (bk_ BK385.out) hb); replace HB := Aside0.mk (below_step (bs_ HB.out GE385.out) hb)
          (try clear hb)
          (try clear hb2)
          (try clear hk)
          (try clear hi)
          refine hK.out _ _ ⟨(blk_cell BK385.out 0).trans rfl, (blk_cell BK385.out 1).trans rfl⟩ (fun hHeld => ?_)
          clear hK K; refine na_ (some 26) ?_; refine pa_ 3 (some 27) rfl rfl HT_ ?_; refine pa_ 4 (some 28) rfl rfl HT_ ?_; refine pb_ 5 (some 29) rfl rfl HT_ ?_; refine pb_ 6 (some 30) rfl rfl HT_ ?_; refine pb_ 7 (some 31) rfl rfl HT_ ?_; refine pb_ 8 (some 32) rfl rfl HT_ ?_; refine pb_ 9 (some 33) rfl rfl HT_ ?_; refine pb_ 10 (some 34) rfl rfl HT_ ?_; refine pb_ 11 (some 35) rfl rfl HT_ ?_; refine pb_ 12 (some 36) rfl rfl HT_ ?_; refine pb_ 13 (some 37) rfl rfl HT_ ?_; refine pb_ 14 (some 38) rfl rfl HT_ ?_; refine pb_ 15 (some 39) rfl rfl HT_ ?_; refine pb_ 16 (some 40) rfl rfl HT_ ?_; refine pa_ 17 (some 41) rfl rfl HT_ ?_; refine pa_ 18 (some 42) rfl rfl HT_ ?_; refine pb_ 19 (some 43) rfl rfl HT_ ?_; refine pb_ 20 (some 44) rfl rfl HT_ ?_; refine pb_ 21 (some 45) rfl rfl HT_ ?_; refine pb_ 22 (some 46) rfl rfl HT_ ?_; refine pb_ 23 (some 47) rfl rfl HT_ ?_; refine pa_ 24 (some 48) rfl rfl HT_ ?_; refine done_ (done_of HT_.out (by kernel_rfl)) ?_
          try go_wp2
          go_ret
          exact ⟨by first | rfl | (simp [errW_none, errW_some] <;> rfl) | (simp [*, errW_none, errW_some] <;> rfl), bs_ HB.out GE385.out⟩
        ·rw [if_neg c9] at H
         exact absurd H (by simp)
       ·rw [if_neg c8] at H
        exact absurd H (by simp)
      ·rw [if_neg c7] at H
       have c7b0 : decide (x19_2 < (l1.length : Int)) = false := decide_eq_false c7; clear c7; obtain rfl := Option.some.inj H
       go_wp2
       go_ret
       exact ⟨by first | rfl | (simp [errW_none, errW_some] <;> rfl) | (simp [*, errW_none, errW_some] <;> rfl), bl_ HB.out⟩
end Go.Proofs.YtcfcnnnkpdhecaaGreat.PFnContinuantsSplit
