-- Written for this claim by a program of this session (wip/tools/xprint.py over the kit's printer, wip/tools/shrink.py).
import Derived.Test.YtobddjeefcoikaaGreatPFnQuidditiesTellx0
import Derived.Test.YtobddjeefcoikaaGreatPFnQuidditiesTellx2
import Derived.Test.YtobddjeefcoikaaGreatPFnQuidditiesTellx8
namespace Go.Proofs.YtobddjeefcoikaaGreat.PFnQuidditiesTell
open Go.RowKit Go.Proofs.YtobddjeefcoikaaGreatW.PrintWords Go.Proofs.YtobddjeefcoikaaGreatW.PrintLast Go.Proofs.YtobddjeefcoikaaGreatW.PrintMore
attribute [local go_sem] max2_int min2_int max_two min_two max_three min_three max_four min_four   -- for this text's walks alone
set_option linter.unusedVariables false
set_option linter.unusedSimpArgs false
mutual
def spec_poGood.j0 : Nat → Int → List (S46) → Bool → Option (Bool)
 | 0, _, _, _ => none
 | k + 1, x0, x1, x18 => if x18 = true then (some false) else (spec_poGood.l0 k x0 x1 x1 (x1.length : Int) 0)
def spec_poGood.l0 : Nat → Int → List (S46) → List (S46) → Int → Int → Option (Bool)
 | 0, _, _, _, _, _ => none
 | k + 1, x0, x1, x19, x20, x21 => if x21 < x20 then (if 0 ≤ x21 then (if x21 < (x19.length : Int) then ((spec_poDiagonal.f x0 ((rd_T46 x19 x21).f0) ((rd_T46 x19 x21).f1)).bind fun t365 => (if t365 = true then (if x21 > 0 then (if 0 ≤ (wrap64 (x21 - 1)) then (if (wrap64 (x21 - 1)) < (x1.length : Int) then ((spec_poLess.f ((rd_T46 x1 (wrap64 (x21 - 1))).f0) ((rd_T46 x1 (wrap64 (x21 - 1))).f1) ((rd_T46 x19 x21).f0) ((rd_T46 x19 x21).f1)).bind fun t367 => (spec_poGood.j2 k x0 x1 x21 x19 x20 x21 (!t367) ((rd_T46 x19 x21).f0) ((rd_T46 x19 x21).f1))) else (none)) else (none)) else (spec_poGood.j2 k x0 x1 x21 x19 x20 x21 false ((rd_T46 x19 x21).f0) ((rd_T46 x19 x21).f1))) else (spec_poGood.j2 k x0 x1 x21 x19 x20 x21 true ((rd_T46 x19 x21).f0) ((rd_T46 x19 x21).f1)))) else (none)) else (none)) else (some true)
def spec_poGood.j2 : Nat → Int → List (S46) → Int → List (S46) → Int → Int → Bool → Int → Int → Option (Bool)
 | 0, _, _, _, _, _, _, _, _, _ => none
 | k + 1, x0, x1, x5, x19, x20, x21, x43, x365000, x365001 => if x43 = true then (some false) else (if 0 ≤ x5 then (if x5 ≤ (x1.length : Int) then ((some (x1.take (x5 : Int).toNat : List (S46))).bind fun y368 => (spec_poGood.l1 k x0 x1 x19 x20 x21 y368 (y368.length : Int) 0 x365000 x365001)) else (none)) else (none))
def spec_poGood.l1 : Nat → Int → List (S46) → List (S46) → Int → Int → List (S46) → Int → Int → Int → Int → Option (Bool)
 | 0, _, _, _, _, _, _, _, _, _, _ => none
 | k + 1, x0, x1, x19, x20, x21, x46, x47, x48, x365000, x365001 => if x48 < x47 then (if 0 ≤ x48 then (if x48 < (x46.length : Int) then ((spec_poCross.f x365000 x365001 ((rd_T46 x46 x48).f0) ((rd_T46 x46 x48).f1)).bind fun t374 => (if t374 = true then (some false) else (spec_poGood.l1 k x0 x1 x19 x20 x21 x46 x47 (wrap64 (x48 + 1)) x365000 x365001))) else (none)) else (none)) else (spec_poGood.l0 k x0 x1 x19 x20 (wrap64 (x21 + 1)))
end
def spec_poGood.f (k : Nat) (a0 : Int) (l1 : List (S46)) : Option (Bool) := (spec_poIs.f a0).bind fun t362 => (if t362 = true then (spec_poGood.j0 k a0 l1 ((l1.length : Int) != (wrap64 (a0 - 3)))) else (spec_poGood.j0 k a0 l1 true))
def spec_poGood.T6 : Bool × List (List Nat × List Nat) := (true, [([], []), ([], []), ([0, 1], [0, 1]), ([2], [2]), ([3, 2], [3]), ([4], [4]), ([5, 4], [4, 5]), ([6, 4, 4], [4, 6]), ([7], [7]), ([7], [7]), ([9, 7], [7, 9]), ([8, 10, 7], [7, 8, 10]), ([11, 7], [7, 11]), ([7], [7]), ([12, 13, 7, 7], [7, 12, 13]), ([14, 7], [7, 14]), ([7, 15, 4], [4, 7, 15]), ([4, 16], [4, 16])])
def spec_poGood.B6 : List Nat := [0, 0, 3, 7, 15, 31, 63, 127, 255, 255, 767, 2047, 4095, 255, 16383, 32767, 65535, 131071]
theorem spec_poGood.tab6 : rtab .any (opsOf Tryz.f34 6) = spec_poGood.T6 := by kernel_rfl
theorem spec_poGood.bits6 : waitsOk spec_poGood.T6.2 spec_poGood.B6 = true := by kernel_rfl
set_option maxHeartbeats 8000000 in
set_option maxRecDepth 100000 in
theorem spec_poGood.calls (k : Nat) (a0 : Int) (A1 : Option Addr) (c1 : Nat) (l1 : List (S46)) (r : Bool) (w : World) (hr1 : Kd.C k46 w A1 l1.length l1) (hc1 : l1.length ≤ c1) (h : spec_poGood.f k a0 l1 = some r) :
  Calls Tryz.prog 34 #[.int .i64 a0, .slice A1 l1.length c1] w fun e w' => e = .returned (.bool r) ∧ Below w.heap.size w w' := by
 have hu46 := Tryz.underlying46; have HR1 := Aside0.mk hr1; have HC1 := Aside0.mk hc1; clear hr1 hc1; have HB := Aside0.mk (Below.refl w.heap.size w); have H : ((spec_poIs.f a0).bind fun t362 => (if t362 = true then (spec_poGood.j0 k a0 l1 ((l1.length : Int) != (wrap64 (a0 - 3)))) else (spec_poGood.j0 k a0 l1 true))) = some r := h
 clear h; have HC3 := Aside0.mk H; clear H
 go_enter Tryz.func34, Tryz.ntmps34
 go_upto_region 1 with (fail)
 go_cut [18] (fun v18 wc => ∃ (kq : Nat) (x18_2 : Bool), v18 = .bool x18_2 ∧ Aside0 (spec_poGood.j0 kq a0 l1 x18_2 = some r) ∧ Aside0 (kq ≤ k) ∧ Aside0 (Below w.heap.size w wc))
 case first =>
  have H := HC3.out; clear HC3; replace H := Option.bind_eq_some_iff.mp H; obtain ⟨t362, A40, H⟩ := H; have A4 := Aside0.mk A40; clear A40
  by_cases c5 : t362 = true
  ·subst c5
   rw [if_pos rfl] at H
   have H' := Aside0.mk H; clear H
   go_wp2_with (first | ((with_reducible refine gate_callee (f := 58) rfl ?_); refine gl_ (some 10) Tryz.func58 #[.int .i64 a0] rfl ?_; (with_reducible refine (spec_poIs.calls a0 true _ A4.out).mono ?_); rintro e w' ⟨rfl, ⟨nd, rfl⟩⟩; refine ⟨_, rfl, ?_⟩))
   go_meet
   case rel => exact ⟨_, (((l1.length : Int) != (wrap64 (a0 - 3)))), (fs_), H', ⟨by first | omega | exact Nat.le_refl _⟩, ⟨bl_ HB.out⟩⟩
  ·replace c5 := Bool.eq_false_iff.mpr c5
   subst c5; rw [if_neg (show ¬ (false = true) by decide)] at H
   have H' := Aside0.mk H; clear H
   go_wp2_with (first | ((with_reducible refine gate_callee (f := 58) rfl ?_); refine gl_ (some 10) Tryz.func58 #[.int .i64 a0] rfl ?_; (with_reducible refine (spec_poIs.calls a0 false _ A4.out).mono ?_); rintro e w' ⟨rfl, ⟨nd, rfl⟩⟩; refine ⟨_, rfl, ?_⟩))
   go_meet
   case rel => exact ⟨_, (true), (fs_), H', ⟨by first | omega | exact Nat.le_refl _⟩, ⟨bl_ HB.out⟩⟩
 case rest =>
  clear HC3
  try clear c1
  try clear p2
  try clear c3
  try clear c5
  obtain ⟨kq, x18_2, rfl, HA, HJ2, HB⟩ := hcut
  cases kq with
  | zero => exact absurd HA.out (by simp [spec_poGood.j0])
  | succ kj2 =>
   have H := HA.out; clear HA
   simp only [spec_poGood.j0] at H
   by_cases c6 : x18_2 = true
   ·subst c6
    rw [if_pos rfl] at H
    obtain rfl := Option.some.inj H
    go_wp2
    go_ret
    exact ⟨by first | rfl | (simp [errW_none, errW_some] <;> rfl) | (simp [*, errW_none, errW_some] <;> rfl), bl_ HB.out⟩
   ·replace c6 := Bool.eq_false_iff.mpr c6
    subst c6; rw [if_neg (show ¬ (false = true) by decide)] at H
    have H' := Aside0.mk H; clear H
    go_wp2
    go_loopg [21] kj2 (fun kq v21 w' => ∃ (x21_2 : Int), v21 = .int .i64 x21_2 ∧ Aside0 (spec_poGood.l0 kq a0 l1 l1 (l1.length : Int) x21_2 = some r) ∧ Aside0 (kq ≤ kj2) ∧ Aside0 (Below w.heap.size w w'))
    case atStart => exact ⟨(0), (fs_), H', ⟨Nat.le_refl _⟩, ⟨bl_ HB.out⟩⟩
    case round =>
     clear H'
     try clear c1
     try clear p2
     try clear c3
     try clear c5
     try clear c6
     try clear p6
     try clear p2
     obtain ⟨x21_2, rfl, HA, HK2, HB⟩ := hrel
     cases gk with
     | zero => exact absurd HA.out (by simp [spec_poGood.l0])
     | succ k2 =>
      have H := HA.out; clear HA
      simp only [spec_poGood.l0] at H
      by_cases c7 : x21_2 < (l1.length : Int)
      ·rw [if_pos c7] at H
       have c7b0 : decide (x21_2 < (l1.length : Int)) = true := decide_eq_true c7; clear c7
       by_cases c8 : 0 ≤ x21_2
       ·rw [if_pos c8] at H
        have c8b0 : decide (0 ≤ x21_2) = true := decide_eq_true c8; clear c8
        by_cases c9 : x21_2 < (l1.length : Int)
        ·rw [if_pos c9] at H
         have c9b0 : decide (x21_2 < (l1.length : Int)) = true := decide_eq_true c9; clear c9; have HC10 := Aside0.mk H; clear H; have p363 : 0 ≤ (x21_2 : Int) := of_decide_eq_true as_; have q363 : x21_2 < (l1.length : Int) := of_decide_eq_true as_; obtain ⟨ad363, e363, hx363_0, hx363_1⟩ := at_T46 HR1.out x21_2 p363 q363
         cases e363
         replace hx363_0 := (HB.out.cell (World.block_lt_of_cell? w _ hx363_0)).trans hx363_0; replace hx363_1 := (HB.out.cell (World.block_lt_of_cell? w _ hx363_1)).trans hx363_1; replace p363 := eq_true p363; replace q363 := eq_true q363
         go_upto_region 6 with (first | ((with_reducible refine gate_dst (N := 6) rfl ?_); (try (refine gate_guard (by rfl) ?_; dsimp only)); refine be_ #[.int .i64 0, .int .i64 0] 46 ?_; intro gb364 hg w11 hbox hb; have BK364 := Aside0.mk (hbox); have GW364 := Aside0.mk ((by rw [hg]; exact (below_size (bl_ HB.out)) : w.heap.size ≤ gb364)); have GE364 := Aside0.mk ((by rw [hg]; exact (below_size (bl_ HB.out)) : w.heap.size ≤ gb364)); replace HB := Aside0.mk (below_step (bl_ HB.out) hb); clear hb hbox hg; have hcz12_0 := cz_ BK364.out 0 (.int .i64 0); have hcz12_1 := cz_ BK364.out 1 (.int .i64 0); have hfz12_0 := blk_frozen BK364.out 0; have hfz12_1 := blk_frozen BK364.out 1))
         (try simp only [Act.put, List.setIfInBounds_toArray, List.set_cons_zero, List.set_cons_succ])
         go_cut [43] (fun v43 wc => ∃ (kq : Nat) (x43_9 : Bool), v43 = .bool x43_9 ∧ Aside0 (spec_poGood.j2 kq a0 l1 x21_2 l1 (l1.length : Int) x21_2 x43_9 ((rd_T46 l1 x21_2).f0) ((rd_T46 l1 x21_2).f1) = some r) ∧ Aside0 (kq ≤ k2) ∧ Aside0 (wc.heap[gb364]? = some (.cells #[.int .i64 ((rd_T46 l1 x21_2).f0), .int .i64 ((rd_T46 l1 x21_2).f1)] 46 (0, 0))) ∧ Aside0 (Below w.heap.size w wc))
         case first =>
          have H := HC10.out; clear HC10; replace H := Option.bind_eq_some_iff.mp H; obtain ⟨t365, A130, H⟩ := H; have A13 := Aside0.mk A130; clear A130
          by_cases c14 : t365 = true
          ·subst c14
           rw [if_pos rfl] at H
           by_cases c15 : x21_2 > 0
           ·rw [if_pos c15] at H
            have c15b0 : decide (0 < x21_2) = true := decide_eq_true c15; clear c15
            (first | rw [c15b0] | (simp only [i64_w, i32_w]; rw [c15b0]) | skip)
            obtain ⟨ji16, hji16⟩ : ∃ j_ : Int, (wrap64 (x21_2 - 1)) = j_ := ⟨_, rfl⟩; replace H : (if 0 ≤ (ji16) then (if (ji16) < (l1.length : Int) then ((spec_poLess.f ((rd_T46 l1 (ji16)).f0) ((rd_T46 l1 (ji16)).f1) ((rd_T46 l1 x21_2).f0) ((rd_T46 l1 x21_2).f1)).bind fun t367 => (spec_poGood.j2 k2 a0 l1 x21_2 l1 (l1.length : Int) x21_2 (!t367) ((rd_T46 l1 x21_2).f0) ((rd_T46 l1 x21_2).f1))) else (none)) else (none)) = some r := by first | (rw [hji16] at H; exact H) | (simp only [hji16] at H ⊢; exact H)
            (try rw [hji16] at A13)
            have hji16w : (IntKind.i64.wrap (x21_2 - 1)) = ji16 := (i64_w _).trans hji16
            by_cases c17 : 0 ≤ (ji16)
            ·rw [if_pos c17] at H
             have c17b0 : decide (0 ≤ (ji16)) = true := decide_eq_true c17; clear c17
             by_cases c18 : (ji16) < (l1.length : Int)
             ·rw [if_pos c18] at H
              have c18b0 : decide ((ji16) < (l1.length : Int)) = true := decide_eq_true c18; clear c18; replace H := Option.bind_eq_some_iff.mp H; obtain ⟨t367, A190, H⟩ := H; have A19 := Aside0.mk A190; clear A190; have H' := Aside0.mk H; clear H
              try go_wp2
              have n0_ : Aside0 (((w11.setCell ⟨gb364, 0, none⟩ (.int .i64 ((rd_T46 l1 x21_2).f0))).setCell ⟨gb364, 1, none⟩ (.int .i64 ((rd_T46 l1 x21_2).f1))).heap[gb364]? = some (.cells #[.int .i64 ((rd_T46 l1 x21_2).f0), .int .i64 ((rd_T46 l1 x21_2).f1)] 46 (0, 0))) := ⟨by (with_reducible repeat (first | refine blk_drewN ?_ _ | refine blk_drew ?_ | refine blk_alloc ?_ _)); refine blk_put (cs := #[.int .i64 ((rd_T46 l1 x21_2).f0), .int .i64 0]) ?_ 1 _ rfl; (with_reducible repeat (first | refine blk_drewN ?_ _ | refine blk_drew ?_ | refine blk_alloc ?_ _)); refine blk_put (cs := #[.int .i64 0, .int .i64 0]) ?_ 0 _ rfl; (with_reducible repeat (first | refine blk_drewN ?_ _ | refine blk_drew ?_ | refine blk_alloc ?_ _)); exact BK364.out⟩
              have n1_ : Aside0 (Below w.heap.size w ((w11.setCell ⟨gb364, 0, none⟩ (.int .i64 ((rd_T46 l1 x21_2).f0))).setCell ⟨gb364, 1, none⟩ (.int .i64 ((rd_T46 l1 x21_2).f1)))) := ⟨bs_ HB.out GE364.out⟩
              (try clear BK364)
              (try clear HB)
              generalize ((w11.setCell ⟨gb364, 0, none⟩ (.int .i64 ((rd_T46 l1 x21_2).f0))).setCell ⟨gb364, 1, none⟩ (.int .i64 ((rd_T46 l1 x21_2).f1))) = w20 at n0_ n1_ ⊢
              have BK364 := n0_; have HB := n1_; clear n0_ n1_; replace BK364 := Aside0.mk (blk_drew BK364.out); replace HB := Aside0.mk (below_drew1 HB.out); have p366 : 0 ≤ ((ji16) : Int) := of_decide_eq_true as_; have q366 : (ji16) < (l1.length : Int) := of_decide_eq_true as_; obtain ⟨ad366, e366, hx366_0, hx366_1⟩ := at_T46 HR1.out (ji16) p366 q366; have hw366_1 := hx366_1; have hw366_0 := hx366_0; obtain rfl : ad363 = ad366 := (by injection e366)
              replace hx366_0 := (HB.out.cell (World.block_lt_of_cell? w _ hx366_0)).trans hx366_0; replace hx366_1 := (HB.out.cell (World.block_lt_of_cell? w _ hx366_1)).trans hx366_1; replace p366 := eq_true p366; replace q366 := eq_true q366; refine start_ (n := 18) (S := fun w' => w'.cell? ⟨gb364, 0, none⟩ = some (.int .i64 ((rd_T46 l1 x21_2).f0)) ∧ w'.cell? ⟨gb364, 1, none⟩ = some (.int .i64 ((rd_T46 l1 x21_2).f1)) ∧ w'.cell? (ad363.add (((ji16)).toNat * 2)) = some (.int .i64 ((rd_T46 l1 (ji16)).f0)) ∧ w'.cell? ⟨(ad363.add (((ji16)).toNat * 2)).block, (ad363.add (((ji16)).toNat * 2)).off + 1, none⟩ = some (.int .i64 ((rd_T46 l1 (ji16)).f1))) (ds := []) #[false, false, false, false, false, false, false, false, false, false, false, false, false, false, false, false, false, false] (by kernel_rfl) rfl rfl ⟨(blk_cell BK364.out 0).trans rfl, (blk_cell BK364.out 1).trans rfl, ((HB.out.cell (World.block_lt_of_cell? w _ hw366_0)).trans hw366_0), ((HB.out.cell (World.block_lt_of_cell? w _ hw366_1)).trans hw366_1)⟩ (fun hHeld => ?_); refine with_tabW spec_poGood.tab6 spec_poGood.bits6 (fun HT_ HW_ => ?_)
              generalize w20.drew = w21 at BK364 HB hx366_0 hx366_1 hHeld ⊢
              refine pa_ 0 (some 26) rfl rfl HT_ ?_; refine ta0_ 1 (some 27) rfl rfl HT_ HW_ hHeld ?_; refine one_ (i := 2) (N := some 28) #[true, true, true, false, false, false, false, false, false, false, false, false, false, false, false, false, false, false] rfl rfl (one_of HT_.out (by kernel_rfl)) (by decide) (fun K hK => ?_)
              refine goes_ Tryz.func59 (by kernel_rfl) rfl #[.int .i64 a0, .agg #[.int .i64 ((rd_T46 l1 x21_2).f0), .int .i64 ((rd_T46 l1 x21_2).f1)]] (by rfl) rfl rfl (by (try simp only [List.map_toArray, List.map_cons, List.map_nil]); first | done | rfl | (simp only [List.length_drop, List.length_take]; rfl)) ?_
              with_reducible refine (spec_poDiagonal.calls a0 ((rd_T46 l1 x21_2).f0) ((rd_T46 l1 x21_2).f1) true _ A13.out).mono ?_
              rintro e w22 ⟨rfl, hb⟩
              refine ⟨_, rfl, ?_⟩; replace BK364 := Aside0.mk (blk_below (g := gb364) (o := .cells #[.int .i64 ((rd_T46 l1 x21_2).f0), .int .i64 ((rd_T46 l1 x21_2).f1)] 46 (0, 0)) (bk_ BK364.out) hb); replace HB := Aside0.mk (below_step (bs_ HB.out GE364.out) hb)
              (try clear hb)
              (try clear hb2)
              (try clear hk)
              (try clear hi)
              refine hK.out _ _ ⟨(blk_cell BK364.out 0).trans rfl, (blk_cell BK364.out 1).trans rfl, ((HB.out.cell (World.block_lt_of_cell? w _ hw366_0)).trans hw366_0), ((HB.out.cell (World.block_lt_of_cell? w _ hw366_1)).trans hw366_1)⟩ (fun hHeld => ?_)
              clear hK K; refine na_ (some 28) ?_; refine pa_ 3 (some 29) rfl rfl HT_ ?_; refine pa_ 4 (some 30) rfl rfl HT_ ?_; refine pa_ 5 (some 31) rfl rfl HT_ ?_; refine pa_ 6 (some 32) rfl rfl HT_ ?_; refine pa_ 7 (some 33) rfl rfl HT_ ?_; refine pa_ 8 (some 34) rfl rfl HT_ ?_; refine pa_ 9 (some 35) rfl rfl HT_ ?_; refine pa_ 10 (some 36) rfl rfl HT_ ?_; refine pa_ 11 (some 37) rfl rfl HT_ ?_; refine ta0_ 12 (some 38) rfl rfl HT_ HW_ hHeld ?_; refine ta0_ 13 (some 39) rfl rfl HT_ HW_ hHeld ?_; refine one_ (i := 14) (N := some 40) #[true, true, true, true, true, true, true, true, true, true, true, true, true, true, true, false, false, false] rfl rfl (one_of HT_.out (by kernel_rfl)) (by decide) (fun K hK => ?_)
              refine goes_ Tryz.func60 (by kernel_rfl) rfl #[.agg #[.int .i64 ((rd_T46 l1 (ji16)).f0), .int .i64 ((rd_T46 l1 (ji16)).f1)], .agg #[.int .i64 ((rd_T46 l1 x21_2).f0), .int .i64 ((rd_T46 l1 x21_2).f1)]] (by rfl) rfl rfl (by (try simp only [List.map_toArray, List.map_cons, List.map_nil]); first | done | (simp only [hji16]; rfl) | rfl | (simp only [List.length_drop, List.length_take]; rfl)) ?_
              with_reducible refine (spec_poLess.calls ((rd_T46 l1 (ji16)).f0) ((rd_T46 l1 (ji16)).f1) ((rd_T46 l1 x21_2).f0) ((rd_T46 l1 x21_2).f1) t367 _ A19.out).mono ?_
              rintro e w23 ⟨rfl, hb⟩
              refine ⟨_, rfl, ?_⟩; replace BK364 := Aside0.mk (blk_below (g := gb364) (o := .cells #[.int .i64 ((rd_T46 l1 x21_2).f0), .int .i64 ((rd_T46 l1 x21_2).f1)] 46 (0, 0)) (bk_ BK364.out) hb); replace HB := Aside0.mk (below_step (bs_ HB.out GE364.out) hb)
              (try clear hb)
              (try clear hb2)
              (try clear hk)
              (try clear hi)
              refine hK.out _ _ ⟨(blk_cell BK364.out 0).trans rfl, (blk_cell BK364.out 1).trans rfl, ((HB.out.cell (World.block_lt_of_cell? w _ hw366_0)).trans hw366_0), ((HB.out.cell (World.block_lt_of_cell? w _ hw366_1)).trans hw366_1)⟩ (fun hHeld => ?_)
              clear hK K; refine na_ (some 40) ?_; refine pa_ 15 (some 41) rfl rfl HT_ ?_; refine pa_ 16 (some 42) rfl rfl HT_ ?_; refine pa_ 17 (some 43) rfl rfl HT_ ?_; refine done_ (done_of HT_.out (by kernel_rfl)) ?_
              try go_wp2
              go_meet
              case rel => exact ⟨_, (!t367), (fs_), H', ⟨by have := HJ2.out; have := HK2.out; first | omega | exact Nat.le_refl _⟩, ⟨by (with_reducible repeat (first | refine blk_drewN ?_ _ | refine blk_drew ?_ | refine blk_alloc ?_ _)); exact BK364.out⟩, ⟨bs_ HB.out GE364.out⟩⟩
             ·rw [if_neg c18] at H
              exact absurd H (by simp)
            ·rw [if_neg c17] at H
             exact absurd H (by simp)
           ·rw [if_neg c15] at H
            have c15b0 : decide (0 < x21_2) = false := decide_eq_false c15; clear c15
            (first | rw [c15b0] | (simp only [i64_w, i32_w]; rw [c15b0]) | skip)
            have H' := Aside0.mk H; clear H
            try go_wp2
            have n0_ : Aside0 (((w11.setCell ⟨gb364, 0, none⟩ (.int .i64 ((rd_T46 l1 x21_2).f0))).setCell ⟨gb364, 1, none⟩ (.int .i64 ((rd_T46 l1 x21_2).f1))).heap[gb364]? = some (.cells #[.int .i64 ((rd_T46 l1 x21_2).f0), .int .i64 ((rd_T46 l1 x21_2).f1)] 46 (0, 0))) := ⟨by (with_reducible repeat (first | refine blk_drewN ?_ _ | refine blk_drew ?_ | refine blk_alloc ?_ _)); refine blk_put (cs := #[.int .i64 ((rd_T46 l1 x21_2).f0), .int .i64 0]) ?_ 1 _ rfl; (with_reducible repeat (first | refine blk_drewN ?_ _ | refine blk_drew ?_ | refine blk_alloc ?_ _)); refine blk_put (cs := #[.int .i64 0, .int .i64 0]) ?_ 0 _ rfl; (with_reducible repeat (first | refine blk_drewN ?_ _ | refine blk_drew ?_ | refine blk_alloc ?_ _)); exact BK364.out⟩
            have n1_ : Aside0 (Below w.heap.size w ((w11.setCell ⟨gb364, 0, none⟩ (.int .i64 ((rd_T46 l1 x21_2).f0))).setCell ⟨gb364, 1, none⟩ (.int .i64 ((rd_T46 l1 x21_2).f1)))) := ⟨bs_ HB.out GE364.out⟩
            (try clear BK364)
            (try clear HB)
            generalize ((w11.setCell ⟨gb364, 0, none⟩ (.int .i64 ((rd_T46 l1 x21_2).f0))).setCell ⟨gb364, 1, none⟩ (.int .i64 ((rd_T46 l1 x21_2).f1))) = w24 at n0_ n1_ ⊢
            have BK364 := n0_; have HB := n1_; clear n0_ n1_; replace BK364 := Aside0.mk (blk_drew BK364.out); replace HB := Aside0.mk (below_drew1 HB.out); refine start_ (n := 18) (S := fun w' => w'.cell? ⟨gb364, 0, none⟩ = some (.int .i64 ((rd_T46 l1 x21_2).f0)) ∧ w'.cell? ⟨gb364, 1, none⟩ = some (.int .i64 ((rd_T46 l1 x21_2).f1))) (ds := []) #[false, false, false, false, false, false, false, false, false, false, false, false, false, false, false, false, false, false] (by kernel_rfl) rfl rfl ⟨(blk_cell BK364.out 0).trans rfl, (blk_cell BK364.out 1).trans rfl⟩ (fun hHeld => ?_); refine with_tabW spec_poGood.tab6 spec_poGood.bits6 (fun HT_ HW_ => ?_)
            generalize w24.drew = w25 at BK364 HB hHeld ⊢
            refine pa_ 0 (some 26) rfl rfl HT_ ?_; refine ta1_ 1 (some 27) rfl rfl HT_ HW_ hHeld ?_; refine one_ (i := 2) (N := some 28) #[true, true, true, false, false, false, false, false, false, false, false, false, false, false, false, false, false, false] rfl rfl (one_of HT_.out (by kernel_rfl)) (by decide) (fun K hK => ?_)
            refine goes_ Tryz.func59 (by kernel_rfl) rfl #[.int .i64 a0, .agg #[.int .i64 ((rd_T46 l1 x21_2).f0), .int .i64 ((rd_T46 l1 x21_2).f1)]] (by rfl) rfl rfl (by (try simp only [List.map_toArray, List.map_cons, List.map_nil]); first | done | rfl | (simp only [List.length_drop, List.length_take]; rfl)) ?_
            with_reducible refine (spec_poDiagonal.calls a0 ((rd_T46 l1 x21_2).f0) ((rd_T46 l1 x21_2).f1) true _ A13.out).mono ?_
            rintro e w26 ⟨rfl, hb⟩
            refine ⟨_, rfl, ?_⟩; replace BK364 := Aside0.mk (blk_below (g := gb364) (o := .cells #[.int .i64 ((rd_T46 l1 x21_2).f0), .int .i64 ((rd_T46 l1 x21_2).f1)] 46 (0, 0)) (bk_ BK364.out) hb); replace HB := Aside0.mk (below_step (bs_ HB.out GE364.out) hb)
            (try clear hb)
            (try clear hb2)
            (try clear hk)
            (try clear hi)
            refine hK.out _ _ ⟨(blk_cell BK364.out 0).trans rfl, (blk_cell BK364.out 1).trans rfl⟩ (fun hHeld => ?_)
            clear hK K; refine na_ (some 28) ?_; refine pa_ 3 (some 29) rfl rfl HT_ ?_; refine pa_ 4 (some 30) rfl rfl HT_ ?_; refine pa_ 5 (some 31) rfl rfl HT_ ?_; refine pa_ 6 (some 32) rfl rfl HT_ ?_; refine pa_ 7 (some 33) rfl rfl HT_ ?_; refine pb_ 8 (some 34) rfl rfl HT_ ?_; refine pb_ 9 (some 35) rfl rfl HT_ ?_; refine pb_ 10 (some 36) rfl rfl HT_ ?_; refine pb_ 11 (some 37) rfl rfl HT_ ?_; refine pb_ 12 (some 38) rfl rfl HT_ ?_; refine pb_ 13 (some 39) rfl rfl HT_ ?_; refine pb_ 14 (some 40) rfl rfl HT_ ?_; refine pb_ 15 (some 41) rfl rfl HT_ ?_; refine pa_ 16 (some 42) rfl rfl HT_ ?_; refine pa_ 17 (some 43) rfl rfl HT_ ?_; refine done_ (done_of HT_.out (by kernel_rfl)) ?_
            try go_wp2
            go_meet
            case rel => exact ⟨_, (false), (fs_), H', ⟨by have := HJ2.out; have := HK2.out; first | omega | exact Nat.le_refl _⟩, ⟨by (with_reducible repeat (first | refine blk_drewN ?_ _ | refine blk_drew ?_ | refine blk_alloc ?_ _)); exact BK364.out⟩, ⟨bs_ HB.out GE364.out⟩⟩
          ·replace c14 := Bool.eq_false_iff.mpr c14
           subst c14; rw [if_neg (show ¬ (false = true) by decide)] at H
           have H' := Aside0.mk H; clear H
           try go_wp2
           have n0_ : Aside0 (((w11.setCell ⟨gb364, 0, none⟩ (.int .i64 ((rd_T46 l1 x21_2).f0))).setCell ⟨gb364, 1, none⟩ (.int .i64 ((rd_T46 l1 x21_2).f1))).heap[gb364]? = some (.cells #[.int .i64 ((rd_T46 l1 x21_2).f0), .int .i64 ((rd_T46 l1 x21_2).f1)] 46 (0, 0))) := ⟨by (with_reducible repeat (first | refine blk_drewN ?_ _ | refine blk_drew ?_ | refine blk_alloc ?_ _)); refine blk_put (cs := #[.int .i64 ((rd_T46 l1 x21_2).f0), .int .i64 0]) ?_ 1 _ rfl; (with_reducible repeat (first | refine blk_drewN ?_ _ | refine blk_drew ?_ | refine blk_alloc ?_ _)); refine blk_put (cs := #[.int .i64 0, .int .i64 0]) ?_ 0 _ rfl; (with_reducible repeat (first | refine blk_drewN ?_ _ | refine blk_drew ?_ | refine blk_alloc ?_ _)); exact BK364.out⟩
           have n1_ : Aside0 (Below w.heap.size w ((w11.setCell ⟨gb364, 0, none⟩ (.int .i64 ((rd_T46 l1 x21_2).f0))).setCell ⟨gb364, 1, none⟩ (.int .i64 ((rd_T46 l1 x21_2).f1)))) := ⟨bs_ HB.out GE364.out⟩
           (try clear BK364)
           (try clear HB)
           generalize ((w11.setCell ⟨gb364, 0, none⟩ (.int .i64 ((rd_T46 l1 x21_2).f0))).setCell ⟨gb364, 1, none⟩ (.int .i64 ((rd_T46 l1 x21_2).f1))) = w27 at n0_ n1_ ⊢
           have BK364 := n0_; have HB := n1_; clear n0_ n1_; replace BK364 := Aside0.mk (blk_drew BK364.out); replace HB := Aside0.mk (below_drew1 HB.out); refine start_ (n := 18) (S := fun w' => w'.cell? ⟨gb364, 0, none⟩ = some (.int .i64 ((rd_T46 l1 x21_2).f0)) ∧ w'.cell? ⟨gb364, 1, none⟩ = some (.int .i64 ((rd_T46 l1 x21_2).f1))) (ds := []) #[false, false, false, false, false, false, false, false, false, false, false, false, false, false, false, false, false, false] (by kernel_rfl) rfl rfl ⟨(blk_cell BK364.out 0).trans rfl, (blk_cell BK364.out 1).trans rfl⟩ (fun hHeld => ?_); refine with_tabW spec_poGood.tab6 spec_poGood.bits6 (fun HT_ HW_ => ?_)
           generalize w27.drew = w28 at BK364 HB hHeld ⊢
           refine pa_ 0 (some 26) rfl rfl HT_ ?_; refine ta1_ 1 (some 27) rfl rfl HT_ HW_ hHeld ?_; refine one_ (i := 2) (N := some 28) #[true, true, true, false, false, false, false, false, false, false, false, false, false, false, false, false, false, false] rfl rfl (one_of HT_.out (by kernel_rfl)) (by decide) (fun K hK => ?_)
           refine goes_ Tryz.func59 (by kernel_rfl) rfl #[.int .i64 a0, .agg #[.int .i64 ((rd_T46 l1 x21_2).f0), .int .i64 ((rd_T46 l1 x21_2).f1)]] (by rfl) rfl rfl (by (try simp only [List.map_toArray, List.map_cons, List.map_nil]); first | done | rfl | (simp only [List.length_drop, List.length_take]; rfl)) ?_
           with_reducible refine (spec_poDiagonal.calls a0 ((rd_T46 l1 x21_2).f0) ((rd_T46 l1 x21_2).f1) false _ A13.out).mono ?_
           rintro e w29 ⟨rfl, hb⟩
           refine ⟨_, rfl, ?_⟩; replace BK364 := Aside0.mk (blk_below (g := gb364) (o := .cells #[.int .i64 ((rd_T46 l1 x21_2).f0), .int .i64 ((rd_T46 l1 x21_2).f1)] 46 (0, 0)) (bk_ BK364.out) hb); replace HB := Aside0.mk (below_step (bs_ HB.out GE364.out) hb)
           (try clear hb)
           (try clear hb2)
           (try clear hk)
           (try clear hi)
           refine hK.out _ _ ⟨(blk_cell BK364.out 0).trans rfl, (blk_cell BK364.out 1).trans rfl⟩ (fun hHeld => ?_)
           clear hK K; refine na_ (some 28) ?_; refine pa_ 3 (some 29) rfl rfl HT_ ?_; refine pa_ 4 (some 30) rfl rfl HT_ ?_; refine pb_ 5 (some 31) rfl rfl HT_ ?_; refine pb_ 6 (some 32) rfl rfl HT_ ?_; refine pb_ 7 (some 33) rfl rfl HT_ ?_; refine pb_ 8 (some 34) rfl rfl HT_ ?_; refine pb_ 9 (some 35) rfl rfl HT_ ?_; refine pb_ 10 (some 36) rfl rfl HT_ ?_; refine pb_ 11 (some 37) rfl rfl HT_ ?_; refine pb_ 12 (some 38) rfl rfl HT_ ?_; refine pb_ 13 (some 39) rfl rfl HT_ ?_; refine pb_ 14 (some 40) rfl rfl HT_ ?_; refine pb_ 15 (some 41) rfl rfl HT_ ?_; refine pb_ 16 (some 42) rfl rfl HT_ ?_; refine pa_ 17 (some 43) rfl rfl HT_ ?_; refine done_ (done_of HT_.out (by kernel_rfl)) ?_
           try go_wp2
           go_meet
           case rel => exact ⟨_, (true), (fs_), H', ⟨by have := HJ2.out; have := HK2.out; first | omega | exact Nat.le_refl _⟩, ⟨by (with_reducible repeat (first | refine blk_drewN ?_ _ | refine blk_drew ?_ | refine blk_alloc ?_ _)); exact BK364.out⟩, ⟨bs_ HB.out GE364.out⟩⟩
         case rest =>
          clear HC10
          try clear c1
          try clear p2
          try clear c3
          try clear p3
          try clear q3
          try clear hx3
          try clear c5
          try clear c6
          try clear p6
          try clear c7
          try clear c7b0
          try clear c8
          try clear c8b0
          try clear c9
          try clear c9b0
          try clear c14
          try clear c15
          try clear c15b0
          try clear c17
          try clear c17b0
          try clear c18
          try clear c18b0
          try clear hcz12_0
          try clear hcz12_1
          try clear hfz12_0
          try clear hfz12_1
          try clear hx363_0
          try clear hx363_1
          try clear hx366_0
          try clear hx366_1
          try clear p2
          try clear p363
          try clear p366
          try clear p6
          try clear q363
          try clear q366
          obtain ⟨kq, x43_9, rfl, HA, HJ9, BK364, HB⟩ := hcut
          cases kq with
          | zero => exact absurd HA.out (by simp [spec_poGood.j2])
          | succ kj9 =>
           have H := HA.out; clear HA
           simp only [spec_poGood.j2] at H
           by_cases c30 : x43_9 = true
           ·subst c30
            rw [if_pos rfl] at H
            obtain rfl := Option.some.inj H
            go_wp2
            go_ret
            exact ⟨by first | rfl | (simp [errW_none, errW_some] <;> rfl) | (simp [*, errW_none, errW_some] <;> rfl), bs_ HB.out GE364.out⟩
           ·replace c30 := Bool.eq_false_iff.mpr c30
            subst c30; rw [if_neg (show ¬ (false = true) by decide)] at H
            by_cases c31 : 0 ≤ x21_2
            ·rw [if_pos c31] at H
             have c31b0 := eq_true c31; have c31b1 : decide (0 ≤ x21_2) = true := decide_eq_true c31; clear c31
             by_cases c32 : x21_2 ≤ (l1.length : Int)
             ·rw [if_pos c32] at H
              have c32b0 := eq_true c32; have c32b1 : decide (x21_2 ≤ (l1.length : Int)) = true := decide_eq_true c32; clear c32; obtain ⟨y368, hy368⟩ : ∃ y_ : List (S46), y_ = (l1.take (x21_2 : Int).toNat) := ⟨_, rfl⟩; replace H : (spec_poGood.l1 kj9 a0 l1 l1 (l1.length : Int) x21_2 y368 (y368.length : Int) 0 ((rd_T46 l1 x21_2).f0) ((rd_T46 l1 x21_2).f1)) = some r := rh_ hy368 H; have Ny368 := Aside0.mk hy368; clear hy368; have H' := Aside0.mk H; clear H; have q33 : (x21_2 : Int) ≤ ((l1.length : Int) : Int) := of_decide_eq_true as_; obtain ⟨i033, hi033, _, hsz33, _⟩ := info_parts info46; have hroom33 : l1.length ≤ c1 := HC1.out; have hC33 : Kd.C k46 _ (some ad363) l1.length l1 := HR1.out; have hcut33 := cut_to (P := Tryz.prog) 24 46 .i64 Tryz.underlying24 hi033 (some ad363) l1.length c1 x21_2 (of_decide_eq_true as_) q33 hroom33; have hr33 := Kd.C_take (m := (x21_2 : Int).toNat) hC33 (by omega)
              have hy33 : y368.length = (x21_2 : Int).toNat := (by rw [Ny368.out, List.length_take]; omega)
              rw [← Ny368.out] at hr33
              rw [← hy33] at hcut33
              have HR371 := Aside0.mk hr33; have HC371 := Aside0.mk (show y368.length ≤ c1 from by omega)
              clear hr33 hC33 hroom33 hi033 hsz33; have KY33 := Aside0.mk hy33; clear hy33; replace q33 := eq_true q33
              go_wp2
              go_loopg [48] kj9 (fun kq v48 w' => ∃ (x48_4 : Int), v48 = .int .i64 x48_4 ∧ Aside0 (spec_poGood.l1 kq a0 l1 l1 (l1.length : Int) x21_2 y368 (y368.length : Int) x48_4 ((rd_T46 l1 x21_2).f0) ((rd_T46 l1 x21_2).f1) = some r) ∧ Aside0 (kq ≤ kj9) ∧ Aside0 (w'.heap[gb364]? = some (.cells #[.int .i64 ((rd_T46 l1 x21_2).f0), .int .i64 ((rd_T46 l1 x21_2).f1)] 46 (0, 0))) ∧ Aside0 (Below w.heap.size w w'))
              case atStart => exact ⟨(0), (fs_), H', ⟨Nat.le_refl _⟩, ⟨by (with_reducible repeat (first | refine blk_drewN ?_ _ | refine blk_drew ?_ | refine blk_alloc ?_ _)); exact BK364.out⟩, ⟨bs_ HB.out GE364.out⟩⟩
              case round =>
               clear H'
               try clear c1
               try clear p2
               try clear c3
               try clear p3
               try clear q3
               try clear hx3
               try clear c5
               try clear c6
               try clear p6
               try clear c7
               try clear c7b0
               try clear c8
               try clear c8b0
               try clear c9
               try clear c9b0
               try clear c14
               try clear c15
               try clear c15b0
               try clear c17
               try clear c17b0
               try clear c18
               try clear c18b0
               try clear c30
               try clear c31
               try clear c31b0
               try clear c31b1
               try clear c32
               try clear c32b0
               try clear c32b1
               try clear q33
               try clear hcz12_0
               try clear hcz12_1
               try clear hfz12_0
               try clear hfz12_1
               try clear hx363_0
               try clear hx363_1
               try clear hx366_0
               try clear hx366_1
               try clear p2
               try clear p3
               try clear p363
               try clear p366
               try clear p6
               try clear q3
               try clear q33
               try clear q363
               try clear q366
               obtain ⟨x48_4, rfl, HA, HK4, BK364, HB⟩ := hrel
               cases gk with
               | zero => exact absurd HA.out (by simp [spec_poGood.l1])
               | succ k4 =>
                have H := HA.out; clear HA
                simp only [spec_poGood.l1] at H
                by_cases c34 : x48_4 < (y368.length : Int)
                ·rw [if_pos c34] at H
                 have c34b0 : decide (x48_4 < (y368.length : Int)) = true := decide_eq_true c34; clear c34
                 by_cases c35 : 0 ≤ x48_4
                 ·rw [if_pos c35] at H
                  have c35b0 : decide (0 ≤ x48_4) = true := decide_eq_true c35; clear c35
                  by_cases c36 : x48_4 < (y368.length : Int)
                  ·rw [if_pos c36] at H
                   have c36b0 : decide (x48_4 < (y368.length : Int)) = true := decide_eq_true c36; clear c36; replace H := Option.bind_eq_some_iff.mp H; obtain ⟨t374, A370, H⟩ := H; have A37 := Aside0.mk A370; clear A370
                   by_cases c38 : t374 = true
                   ·subst c38
                    rw [if_pos rfl] at H
                    obtain rfl := Option.some.inj H; have p372 : 0 ≤ (x48_4 : Int) := of_decide_eq_true as_; have q372 : x48_4 < (y368.length : Int) := of_decide_eq_true as_; obtain ⟨ad372, e372, hx372_0, hx372_1⟩ := at_T46 HR371.out x48_4 p372 q372; obtain rfl : ad363 = ad372 := (by injection e372)
                    replace hx372_0 := (HB.out.cell (World.block_lt_of_cell? w _ hx372_0)).trans hx372_0; replace hx372_1 := (HB.out.cell (World.block_lt_of_cell? w _ hx372_1)).trans hx372_1; replace p372 := eq_true p372; replace q372 := eq_true q372
                    go_wp2_with (first | ((with_reducible refine gate_dst (N := 8) rfl ?_); (try (refine gate_guard (by rfl) ?_; dsimp only)); refine be_ #[.int .i64 0, .int .i64 0] 46 ?_; intro gb373 hg w39 hbox hb; have BK373 := Aside0.mk (hbox); have GW373 := Aside0.mk ((by rw [hg]; exact (below_size (bs_ HB.out GE364.out)) : w.heap.size ≤ gb373)); have GE373 := Aside0.mk ((by rw [hg]; exact (below_size (bs_ HB.out GE364.out)) : w.heap.size ≤ gb373)); replace HB := Aside0.mk (below_step (bs_ HB.out GE364.out) hb); have NB364_373 := Aside0.mk ((by rw [hg]; exact Nat.ne_of_lt (blk_lt (g := gb364) (o := .cells #[.int .i64 ((rd_T46 l1 x21_2).f0), .int .i64 ((rd_T46 l1 x21_2).f1)] 46 (0, 0)) (bk_ BK364.out)) : gb364 ≠ gb373)); have NB373_364 := Aside0.mk ((by rw [hg]; exact Nat.ne_of_gt (blk_lt (g := gb364) (o := .cells #[.int .i64 ((rd_T46 l1 x21_2).f0), .int .i64 ((rd_T46 l1 x21_2).f1)] 46 (0, 0)) (bk_ BK364.out)) : gb373 ≠ gb364)); replace BK364 := Aside0.mk (blk_below (g := gb364) (o := .cells #[.int .i64 ((rd_T46 l1 x21_2).f0), .int .i64 ((rd_T46 l1 x21_2).f1)] 46 (0, 0)) (bk_ BK364.out) hb); clear hb hbox hg; have hnb40 := NB373_364.out; have hnc40 := NB364_373.out; have hcz41_0 := cz_ BK373.out 0 (.int .i64 0); have hcz41_1 := cz_ BK373.out 1 (.int .i64 0); have hfz41_0 := blk_frozen BK373.out 0; have hfz41_1 := blk_frozen BK373.out 1; have hcz42_0 := cz_ BK364.out 0 (.int .i64 ((rd_T46 l1 x21_2).f0)); have hcz42_1 := cz_ BK364.out 1 (.int .i64 ((rd_T46 l1 x21_2).f1)); have hfz42_0 := blk_frozen BK364.out 0; have hfz42_1 := blk_frozen BK364.out 1) | ((with_reducible refine gate_callee (f := 61) rfl ?_); refine gl_ (some 54) Tryz.func61 #[.agg #[.int .i64 ((rd_T46 l1 x21_2).f0), .int .i64 ((rd_T46 l1 x21_2).f1)], .agg #[.int .i64 ((rd_T46 y368 x48_4).f0), .int .i64 ((rd_T46 y368 x48_4).f1)]] rfl ?_; (with_reducible refine (spec_poCross.calls ((rd_T46 l1 x21_2).f0) ((rd_T46 l1 x21_2).f1) ((rd_T46 y368 x48_4).f0) ((rd_T46 y368 x48_4).f1) true _ A37.out).mono ?_); rintro e w43 ⟨rfl, hb⟩; refine ⟨_, rfl, ?_⟩; replace BK364 := Aside0.mk (blk_below (g := gb364) (o := .cells #[.int .i64 ((rd_T46 l1 x21_2).f0), .int .i64 ((rd_T46 l1 x21_2).f1)] 46 (0, 0)) (by (with_reducible repeat (first | refine blk_drewN ?_ _ | refine blk_drew ?_ | refine blk_alloc ?_ _)); refine blk_far ?_ NB364_373.out _; (with_reducible repeat (first | refine blk_drewN ?_ _ | refine blk_drew ?_ | refine blk_alloc ?_ _)); refine blk_far ?_ NB364_373.out _; (with_reducible repeat (first | refine blk_drewN ?_ _ | refine blk_drew ?_ | refine blk_alloc ?_ _)); exact BK364.out) hb); replace BK373 := Aside0.mk (blk_below (g := gb373) (o := .cells #[.int .i64 ((rd_T46 y368 x48_4).f0), .int .i64 ((rd_T46 y368 x48_4).f1)] 46 (0, 0)) (by (with_reducible repeat (first | refine blk_drewN ?_ _ | refine blk_drew ?_ | refine blk_alloc ?_ _)); refine blk_put (cs := #[.int .i64 ((rd_T46 y368 x48_4).f0), .int .i64 0]) ?_ 1 _ rfl; (with_reducible repeat (first | refine blk_drewN ?_ _ | refine blk_drew ?_ | refine blk_alloc ?_ _)); refine blk_put (cs := #[.int .i64 0, .int .i64 0]) ?_ 0 _ rfl; (with_reducible repeat (first | refine blk_drewN ?_ _ | refine blk_drew ?_ | refine blk_alloc ?_ _)); exact BK373.out) hb); replace HB := Aside0.mk (below_step (by repeat (first | (with_reducible first | exact HB.out | apply below_alloc | apply pw_below_drewN | apply below_drew1 | refine below_set ?_ GE364.out | refine below_set ?_ GE373.out) | exact HB.out)) hb); (try clear hb); (try clear hb2); (try clear hk); (try clear hi)))
                    go_ret
                    exact ⟨by first | rfl | (simp [errW_none, errW_some] <;> rfl) | (simp [*, errW_none, errW_some] <;> rfl), by repeat (first | (with_reducible first | exact HB.out | apply below_alloc | apply pw_below_drewN | apply below_drew1 | refine below_set ?_ GE364.out | refine below_set ?_ GE373.out) | exact HB.out)⟩
                   ·replace c38 := Bool.eq_false_iff.mpr c38
                    subst c38; rw [if_neg (show ¬ (false = true) by decide)] at H
                    have H' := Aside0.mk H; clear H; have p372 : 0 ≤ (x48_4 : Int) := of_decide_eq_true as_; have q372 : x48_4 < (y368.length : Int) := of_decide_eq_true as_; obtain ⟨ad372, e372, hx372_0, hx372_1⟩ := at_T46 HR371.out x48_4 p372 q372; obtain rfl : ad363 = ad372 := (by injection e372)
                    replace hx372_0 := (HB.out.cell (World.block_lt_of_cell? w _ hx372_0)).trans hx372_0; replace hx372_1 := (HB.out.cell (World.block_lt_of_cell? w _ hx372_1)).trans hx372_1; replace p372 := eq_true p372; replace q372 := eq_true q372
                    go_wp2_with (first | ((with_reducible refine gate_dst (N := 8) rfl ?_); (try (refine gate_guard (by rfl) ?_; dsimp only)); refine be_ #[.int .i64 0, .int .i64 0] 46 ?_; intro gb373 hg w44 hbox hb; have BK373 := Aside0.mk (hbox); have GW373 := Aside0.mk ((by rw [hg]; exact (below_size (bs_ HB.out GE364.out)) : w.heap.size ≤ gb373)); have GE373 := Aside0.mk ((by rw [hg]; exact (below_size (bs_ HB.out GE364.out)) : w.heap.size ≤ gb373)); replace HB := Aside0.mk (below_step (bs_ HB.out GE364.out) hb); have NB364_373 := Aside0.mk ((by rw [hg]; exact Nat.ne_of_lt (blk_lt (g := gb364) (o := .cells #[.int .i64 ((rd_T46 l1 x21_2).f0), .int .i64 ((rd_T46 l1 x21_2).f1)] 46 (0, 0)) (bk_ BK364.out)) : gb364 ≠ gb373)); have NB373_364 := Aside0.mk ((by rw [hg]; exact Nat.ne_of_gt (blk_lt (g := gb364) (o := .cells #[.int .i64 ((rd_T46 l1 x21_2).f0), .int .i64 ((rd_T46 l1 x21_2).f1)] 46 (0, 0)) (bk_ BK364.out)) : gb373 ≠ gb364)); replace BK364 := Aside0.mk (blk_below (g := gb364) (o := .cells #[.int .i64 ((rd_T46 l1 x21_2).f0), .int .i64 ((rd_T46 l1 x21_2).f1)] 46 (0, 0)) (bk_ BK364.out) hb); clear hb hbox hg; have hnb45 := NB373_364.out; have hnc45 := NB364_373.out; have hcz46_0 := cz_ BK373.out 0 (.int .i64 0); have hcz46_1 := cz_ BK373.out 1 (.int .i64 0); have hfz46_0 := blk_frozen BK373.out 0; have hfz46_1 := blk_frozen BK373.out 1; have hcz47_0 := cz_ BK364.out 0 (.int .i64 ((rd_T46 l1 x21_2).f0)); have hcz47_1 := cz_ BK364.out 1 (.int .i64 ((rd_T46 l1 x21_2).f1)); have hfz47_0 := blk_frozen BK364.out 0; have hfz47_1 := blk_frozen BK364.out 1) | ((with_reducible refine gate_callee (f := 61) rfl ?_); refine gl_ (some 54) Tryz.func61 #[.agg #[.int .i64 ((rd_T46 l1 x21_2).f0), .int .i64 ((rd_T46 l1 x21_2).f1)], .agg #[.int .i64 ((rd_T46 y368 x48_4).f0), .int .i64 ((rd_T46 y368 x48_4).f1)]] rfl ?_; (with_reducible refine (spec_poCross.calls ((rd_T46 l1 x21_2).f0) ((rd_T46 l1 x21_2).f1) ((rd_T46 y368 x48_4).f0) ((rd_T46 y368 x48_4).f1) false _ A37.out).mono ?_); rintro e w48 ⟨rfl, hb⟩; refine ⟨_, rfl, ?_⟩; replace BK364 := Aside0.mk (blk_below (g := gb364) (o := .cells #[.int .i64 ((rd_T46 l1 x21_2).f0), .int .i64 ((rd_T46 l1 x21_2).f1)] 46 (0, 0)) (by (with_reducible repeat (first | refine blk_drewN ?_ _ | refine blk_drew ?_ | refine blk_alloc ?_ _)); refine blk_far ?_ NB364_373.out _; (with_reducible repeat (first | refine blk_drewN ?_ _ | refine blk_drew ?_ | refine blk_alloc ?_ _)); refine blk_far ?_ NB364_373.out _; (with_reducible repeat (first | refine blk_drewN ?_ _ | refine blk_drew ?_ | refine blk_alloc ?_ _)); exact BK364.out) hb); replace BK373 := Aside0.mk (blk_below (g := gb373) (o := .cells #[.int .i64 ((rd_T46 y368 x48_4).f0), .int .i64 ((rd_T46 y368 x48_4).f1)] 46 (0, 0)) (by (with_reducible repeat (first | refine blk_drewN ?_ _ | refine blk_drew ?_ | refine blk_alloc ?_ _)); refine blk_put (cs := #[.int .i64 ((rd_T46 y368 x48_4).f0), .int .i64 0]) ?_ 1 _ rfl; (with_reducible repeat (first | refine blk_drewN ?_ _ | refine blk_drew ?_ | refine blk_alloc ?_ _)); refine blk_put (cs := #[.int .i64 0, .int .i64 0]) ?_ 0 _ rfl; (with_reducible repeat (first | refine blk_drewN ?_ _ | refine blk_drew ?_ | refine blk_alloc ?_ _)); exact BK373.out) hb); replace HB := Aside0.mk (below_step (by repeat (first | (with_reducible first | exact HB.out | apply below_alloc | apply pw_below_drewN | apply below_drew1 | refine below_set ?_ GE364.out | refine below_set ?_ GE373.out) | exact HB.out)) hb); (try clear hb); (try clear hb2); (try clear hk); (try clear hi)))
                    go_roundg k4
                    case measure => have := HJ2.out; have := HK2.out; have := HJ9.out; have := HK4.out; omega
                    case rel => exact ⟨(wrap64 (x48_4 + 1)), (fs_), H', ⟨by have := HJ2.out; have := HK2.out; have := HJ9.out; have := HK4.out; omega⟩, ⟨by (with_reducible repeat (first | refine blk_drewN ?_ _ | refine blk_drew ?_ | refine blk_alloc ?_ _)); exact BK364.out⟩, ⟨by repeat (first | (with_reducible first | exact HB.out | apply below_alloc | apply pw_below_drewN | apply below_drew1 | refine below_set ?_ GE364.out | refine below_set ?_ GE373.out) | exact HB.out)⟩⟩
                  ·rw [if_neg c36] at H
                   exact absurd H (by simp)
                 ·rw [if_neg c35] at H
                  exact absurd H (by simp)
                ·rw [if_neg c34] at H
                 have c34b0 : decide (x48_4 < (y368.length : Int)) = false := decide_eq_false c34; clear c34; have H' := Aside0.mk H; clear H
                 go_wp2
                 go_roundg k4
                 case measure => have := HJ2.out; have := HK2.out; have := HJ9.out; have := HK4.out; omega
                 case rel => exact ⟨(wrap64 (x21_2 + 1)), (fs_), H', ⟨by have := HJ2.out; have := HK2.out; have := HJ9.out; have := HK4.out; omega⟩, ⟨bs_ HB.out GE364.out⟩⟩
             ·rw [if_neg c32] at H
              exact absurd H (by simp)
            ·rw [if_neg c31] at H
             exact absurd H (by simp)
        ·rw [if_neg c9] at H
         exact absurd H (by simp)
       ·rw [if_neg c8] at H
        exact absurd H (by simp)
      ·rw [if_neg c7] at H
       have c7b0 : decide (x21_2 < (l1.length : Int)) = false := decide_eq_false c7; clear c7; obtain rfl := Option.some.inj H
       go_wp2
       go_ret
       exact ⟨by first | rfl | (simp [errW_none, errW_some] <;> rfl) | (simp [*, errW_none, errW_some] <;> rfl), bl_ HB.out⟩
end Go.Proofs.YtobddjeefcoikaaGreat.PFnQuidditiesTell
