-- Written for this claim by a program of this session (wip/tools/xprint.py over the kit's printer, wip/tools/shrink.py).
import Derived.Test.YtobddjeefcoikaaGreatPFnQuidditiesTellx0
import Derived.Test.YtobddjeefcoikaaGreatPFnQuidditiesTellx9
namespace Go.Proofs.YtobddjeefcoikaaGreat.PFnQuidditiesTell
open Go.RowKit Go.Proofs.YtobddjeefcoikaaGreatW.PrintWords Go.Proofs.YtobddjeefcoikaaGreatW.PrintLast Go.Proofs.YtobddjeefcoikaaGreatW.PrintMore
attribute [local go_sem] max2_int min2_int max_two min_two max_three min_three max_four min_four   -- for this text's walks alone
set_option linter.unusedVariables false
set_option linter.unusedSimpArgs false
mutual
def spec_poQuiddity.l0 : Nat → List (S46) → List Int → Int → Int → Option (List Int)
 | 0, _, _, _, _ => none
 | k + 1, x1, x5, x12, x13 => if x13 < x12 then (if 0 ≤ x13 then (if x13 < (x5.length : Int) then (spec_poQuiddity.l0 k x1 (x5.set (x13 : Int).toNat 1) x12 (wrap64 (x13 + 1))) else (none)) else (none)) else (spec_poQuiddity.l1 k x5 x1 (x1.length : Int) 0)
def spec_poQuiddity.l1 : Nat → List Int → List (S46) → Int → Int → Option (List Int)
 | 0, _, _, _, _ => none
 | k + 1, x5, x20, x21, x22 => if x22 < x21 then (if 0 ≤ x22 then (if x22 < (x20.length : Int) then (if 0 ≤ ((rd_T46 x20 x22).f0) then (if ((rd_T46 x20 x22).f0) < (x5.length : Int) then ((some (x5.set (((rd_T46 x20 x22).f0) : Int).toNat (wrap64 ((rd x5 ((rd_T46 x20 x22).f0)) + 1)) : List Int)).bind fun y382 => (if 0 ≤ ((rd_T46 x20 x22).f1) then (if ((rd_T46 x20 x22).f1) < (x5.length : Int) then (spec_poQuiddity.l1 k (y382.set (((rd_T46 x20 x22).f1) : Int).toNat (wrap64 ((rd y382 ((rd_T46 x20 x22).f1)) + 1))) x20 x21 (wrap64 (x22 + 1))) else (none)) else (none))) else (none)) else (none)) else (none)) else (none)) else (some x5)
end
def spec_poQuiddity.f (k : Nat) (a0 : Int) (l1 : List (S46)) : Option (List Int) := if 0 ≤ a0 then (if (a0 : Int).toNat ≤ 35184372088832 then ((some (List.replicate (a0 : Int).toNat 0 : List Int)).bind fun y375 => (spec_poQuiddity.l0 k l1 y375 (y375.length : Int) 0)) else (none)) else (none)
set_option maxHeartbeats 8000000 in
set_option maxRecDepth 100000 in
theorem spec_poQuiddity.calls (k : Nat) (a0 : Int) (A1 : Option Addr) (c1 : Nat) (l1 : List (S46)) (r : List Int) (w : World) (hr1 : Kd.C k46 w A1 l1.length l1) (hc1 : l1.length ≤ c1) (h : spec_poQuiddity.f k a0 l1 = some r) :
  Calls Tryz.prog 35 #[.int .i64 a0, .slice A1 l1.length c1] w fun e w' => ∃ v0_ : Value, e = .returned (v0_) ∧ Kd.R (Kd.int .i64) 3 w' w.heap.size (fun _ => True) v0_ r ∧ Below w.heap.size w w' := by
 have hu46 := Tryz.underlying46; have HR1 := Aside0.mk hr1; have HC1 := Aside0.mk hc1; clear hr1 hc1; have HB := Aside0.mk (Below.refl w.heap.size w); have H : (if 0 ≤ a0 then (if (a0 : Int).toNat ≤ 35184372088832 then ((some (List.replicate (a0 : Int).toNat 0 : List Int)).bind fun y375 => (spec_poQuiddity.l0 k l1 y375 (y375.length : Int) 0)) else (none)) else (none)) = some r := h
 clear h
 by_cases c3 : 0 ≤ a0
 ·rw [if_pos c3] at H
  have c3b0 := eq_true c3; have c3b1 : decide (0 ≤ a0) = true := decide_eq_true c3; clear c3
  by_cases c4 : (a0 : Int).toNat ≤ 35184372088832
  ·rw [if_pos c4] at H
   have c4b0 := eq_true c4; have c4b1 : decide ((a0 : Int).toNat ≤ 35184372088832) = true := decide_eq_true c4; clear c4; obtain ⟨y375, hy375⟩ : ∃ y_ : List Int, y_ = (List.replicate (a0 : Int).toNat 0) := ⟨_, rfl⟩; replace H : (spec_poQuiddity.l0 k l1 y375 (y375.length : Int) 0) = some r := rh_ hy375 H; have Ny375 := Aside0.mk hy375; clear hy375; have H' := Aside0.mk H; clear H
   go_enter Tryz.func35, Tryz.ntmps35
   go_wp2_with (first | ((with_reducible refine gate_dst (N := 10) rfl ?_); refine Kd.R_make (Kd.int .i64) _ 3 rfl (N := 10) rfl 27 _ _ rfl a0 rfl rfl Tryz.underlying27 (.int .i64 0) 8 info3 rfl (by decide) (by omega) 0 (ok := fun _ => True) (okp := fun _ => True) rfl (fun _ hk => hk) trivial (of_decide_eq_true as_) (Nat.le_trans (Nat.mul_le_mul_right _ (of_decide_eq_true as_ : a0.toNat ≤ 35184372088832)) (by omega)) (Below.refl _ _) (Nat.le_refl _) ?_; intro v376 w5 ho6 hb hg_ hnew_; clear hg_ hnew_; (first | rw [← Ny375.out] at ho6 | (simp only [Int.reduceToNat] at ho6; rw [← Ny375.out] at ho6)); have HO377 := Aside0.mk (Kd.R_lower ho6 (below_size (bl_ HB.out))); replace HB := Aside0.mk (below_step (bl_ HB.out) hb); clear hb ho6; obtain ⟨Ao7, co7, eo7⟩ := Kd.R_slice HO377.out; subst eo7))
   go_loopg [13] k (fun kq v13 w' => ∃ (x5_1 : List Int) (x13_1 : Int), v13 = .int .i64 x13_1 ∧ Aside0 (spec_poQuiddity.l0 kq l1 x5_1 (y375.length : Int) x13_1 = some r) ∧ Aside0 (kq ≤ k) ∧ Aside0 (Kd.R (Kd.int .i64) 3 w' w.heap.size (fun _ => True) (.slice Ao7 y375.length co7) x5_1) ∧ Aside0 (Below w.heap.size w w'))
   case atStart => exact ⟨(y375), (0), (fs_), H', ⟨Nat.le_refl _⟩, ⟨kr_ HO377.out⟩, ⟨bl_ HB.out⟩⟩
   case round =>
    clear H'
    try clear c1
    try clear p2
    try clear c3
    try clear c3b0
    try clear c3b1
    try clear c4
    try clear c4b0
    try clear c4b1
    obtain ⟨x5_1, x13_1, rfl, HA, HK1, HO_5, HB⟩ := hrel; have hl5_1 := (Kd.R_reads' HO_5.out).1; rw [hl5_1] at HO_5
    (try simp only [hl5_1])
    cases gk with
    | zero => exact absurd HA.out (by simp [spec_poQuiddity.l0])
    | succ k1 =>
     have H := HA.out; clear HA
     simp only [spec_poQuiddity.l0] at H
     by_cases c8 : x13_1 < (y375.length : Int)
     ·rw [if_pos c8] at H
      have c8b0 : decide (x13_1 < (y375.length : Int)) = true := decide_eq_true c8; clear c8
      by_cases c9 : 0 ≤ x13_1
      ·rw [if_pos c9] at H
       have c9b0 : decide (0 ≤ x13_1) = true := decide_eq_true c9; clear c9
       by_cases c10 : x13_1 < (x5_1.length : Int)
       ·rw [if_pos c10] at H
        have c10b0 : decide (x13_1 < (x5_1.length : Int)) = true := decide_eq_true c10; clear c10; obtain ⟨y378, hy378⟩ : ∃ y_ : List Int, y_ = (x5_1.set (x13_1 : Int).toNat 1) := ⟨_, rfl⟩; replace H : (spec_poQuiddity.l0 k1 l1 y378 (y375.length : Int) (wrap64 (x13_1 + 1))) = some r := rh_ hy378 H; have Ny378 := Aside0.mk hy378; clear hy378; have H' := Aside0.mk H; clear H; have p11 : 0 ≤ (x13_1 : Int) := of_decide_eq_true as_; have q11 : (x13_1 : Int) < ((x5_1.length : Int) : Int) := of_decide_eq_true as_; obtain ⟨go11, co11, eo11, gb11, gl11, cl11, HG11⟩ := Kd.R_form HO_5.out (by omega)
        (first | cases eo11 | (injection eo11 with ea_ en_ ec_; (first | subst ea_ | (injection ea_ with ea_; subst ea_)); subst ec_; clear en_))
        have GB11 := Aside0.mk gb11; have GG11 := Aside0.mk HG11; clear gb11 gl11 HG11; obtain ⟨hx11_0, hf11_0⟩ := Kd.R_celln 0 HO_5.out (x13_1 : Int) p11 q11; replace p11 := eq_true p11; replace q11 := eq_true q11; have HP12 := Kd.R_putg HO_5.out (x13_1 : Int) 1
        go_wp2_with (first | ((with_reducible refine gate_store (t := 3) (p := 18) rfl ?_); refine store_event (t := 3) (p := 18) (v := ?vo_w13) (w1 := (wr.setCell ⟨go11, (x13_1 : Int).toNat, none⟩ (.int .i64 1))) ?hg ?ho ?hn ?hr ?_; (case ho => rfl); (case hg => rfl); (case hn => rfl); (case hr => first | (go_simp; done) | (go_simp; rfl)); intro w13 hw; have hg : wr.grownBy w13 (some go11) := (by rw [hw]; exact HP12.2); have hp_ : Kd.R (Kd.int .i64) 3 w13 w.heap.size (fun _ => True) (.slice (some ⟨go11, 0, none⟩) x5_1.length co7) y378 := (by rw [hw, Ny378.out]; exact HP12.1); clear HP12; replace HO_5 := Aside0.mk (hp_); replace HB := Aside0.mk ((by rw [hw]; exact below_set (HB.out) GB11.out : Below w.heap.size w w13)); clear hg hw hp_))
        (try simp only [← hl5_1])
        go_roundg k1
        case measure => have := HK1.out; omega
        case rel => exact ⟨(y378), (wrap64 (x13_1 + 1)), (fs_), H', ⟨by have := HK1.out; omega⟩, ⟨by (try simp only [hl5_1]); (with_reducible repeat (first | apply Kd.R_alloc | apply Kd.R_drewN | apply Kd.R_drew)); exact HO_5.out⟩, ⟨bl_ HB.out⟩⟩
       ·rw [if_neg c10] at H
        exact absurd H (by simp)
      ·rw [if_neg c9] at H
       exact absurd H (by simp)
     ·rw [if_neg c8] at H
      have c8b0 : decide (x13_1 < (y375.length : Int)) = false := decide_eq_false c8; have c8b0q_ := c8b0
      (try simp only [hl5_1] at c8b0q_)
      clear c8; have H' := Aside0.mk H; clear H
      go_wp2
      go_loopg [22] k1 (fun kq v22 w' => ∃ (x5_2 : List Int) (x22_2 : Int), v22 = .int .i64 x22_2 ∧ Aside0 (spec_poQuiddity.l1 kq x5_2 l1 (l1.length : Int) x22_2 = some r) ∧ Aside0 (kq ≤ k1) ∧ Aside0 (Kd.R (Kd.int .i64) 3 w' w.heap.size (fun _ => True) (.slice Ao7 x5_1.length co7) x5_2) ∧ Aside0 (Below w.heap.size w w'))
      case atStart => exact ⟨(x5_1), (0), (fs_), H', ⟨Nat.le_refl _⟩, ⟨by (try simp only [hl5_1]); (with_reducible repeat (first | apply Kd.R_alloc | apply Kd.R_drewN | apply Kd.R_drew)); exact HO_5.out⟩, ⟨bl_ HB.out⟩⟩
      case round =>
       clear H'
       try clear c1
       try clear p1
       try clear q1
       try clear hx1
       try clear p2
       try clear c3
       try clear c3b0
       try clear c3b1
       try clear c4
       try clear c4b0
       try clear c4b1
       try clear p6
       try clear c8
       try clear c8b0
       try clear c9
       try clear c9b0
       try clear c10
       try clear c10b0
       try clear p11
       try clear q11
       try clear hx11
       try clear hf11
       try clear hx11_0
       try clear p11
       try clear p2
       try clear q11
       obtain ⟨x5_2, x22_2, rfl, HA, HK2, HO_5, HB⟩ := hrel; have hl5_2 := (Kd.R_reads' HO_5.out).1; rw [hl5_2] at HO_5
       (try simp only [hl5_2])
       cases gk with
       | zero => exact absurd HA.out (by simp [spec_poQuiddity.l1])
       | succ k2 =>
        have H := HA.out; clear HA
        simp only [spec_poQuiddity.l1] at H
        by_cases c14 : x22_2 < (l1.length : Int)
        ·rw [if_pos c14] at H
         have c14b0 : decide (x22_2 < (l1.length : Int)) = true := decide_eq_true c14; clear c14
         by_cases c15 : 0 ≤ x22_2
         ·rw [if_pos c15] at H
          have c15b0 : decide (0 ≤ x22_2) = true := decide_eq_true c15; clear c15
          by_cases c16 : x22_2 < (l1.length : Int)
          ·rw [if_pos c16] at H
           have c16b0 : decide (x22_2 < (l1.length : Int)) = true := decide_eq_true c16; clear c16
           by_cases c17 : 0 ≤ ((rd_T46 l1 x22_2).f0)
           ·rw [if_pos c17] at H
            have c17b0 : decide (0 ≤ ((rd_T46 l1 x22_2).f0)) = true := decide_eq_true c17; clear c17
            by_cases c18 : ((rd_T46 l1 x22_2).f0) < (x5_2.length : Int)
            ·rw [if_pos c18] at H
             have c18b0 : decide (((rd_T46 l1 x22_2).f0) < (x5_2.length : Int)) = true := decide_eq_true c18; clear c18; obtain ⟨y382, hy382⟩ : ∃ y_ : List Int, y_ = (x5_2.set (((rd_T46 l1 x22_2).f0) : Int).toNat (wrap64 ((rd x5_2 ((rd_T46 l1 x22_2).f0)) + 1))) := ⟨_, rfl⟩; replace H : (if 0 ≤ ((rd_T46 l1 x22_2).f1) then (if ((rd_T46 l1 x22_2).f1) < (x5_2.length : Int) then (spec_poQuiddity.l1 k2 (y382.set (((rd_T46 l1 x22_2).f1) : Int).toNat (wrap64 ((rd y382 ((rd_T46 l1 x22_2).f1)) + 1))) l1 (l1.length : Int) (wrap64 (x22_2 + 1))) else (none)) else (none)) = some r := rh_ hy382 H
             have Ny382 := Aside0.mk hy382; clear hy382
             by_cases c20 : 0 ≤ ((rd_T46 l1 x22_2).f1)
             ·rw [if_pos c20] at H
              have c20b0 : decide (0 ≤ ((rd_T46 l1 x22_2).f1)) = true := decide_eq_true c20; clear c20
              by_cases c21 : ((rd_T46 l1 x22_2).f1) < (x5_2.length : Int)
              ·rw [if_pos c21] at H
               have c21b0 : decide (((rd_T46 l1 x22_2).f1) < (x5_2.length : Int)) = true := decide_eq_true c21; clear c21; obtain ⟨y384, hy384⟩ : ∃ y_ : List Int, y_ = (y382.set (((rd_T46 l1 x22_2).f1) : Int).toNat (wrap64 ((rd y382 ((rd_T46 l1 x22_2).f1)) + 1))) := ⟨_, rfl⟩; replace H : (spec_poQuiddity.l1 k2 y384 l1 (l1.length : Int) (wrap64 (x22_2 + 1))) = some r := rh_ hy384 H; have Ny384 := Aside0.mk hy384; clear hy384; have H' := Aside0.mk H; clear H; have p379 : 0 ≤ (x22_2 : Int) := of_decide_eq_true as_; have q379 : x22_2 < (l1.length : Int) := of_decide_eq_true as_; obtain ⟨ad379, e379, hx379_0, hx379_1⟩ := at_T46 HR1.out x22_2 p379 q379
               cases e379
               replace hx379_0 := (HB.out.cell (World.block_lt_of_cell? w _ hx379_0)).trans hx379_0; replace hx379_1 := (HB.out.cell (World.block_lt_of_cell? w _ hx379_1)).trans hx379_1; replace p379 := eq_true p379; replace q379 := eq_true q379
               go_wp2_with (first | ((with_reducible refine gate_dst (N := 8) rfl ?_); refine be_ #[.int .i64 0, .int .i64 0] 46 ?_; intro gb380 hg w23 hbox hb; replace HO_5 := Aside0.mk (Kd.R_below (kr_ HO_5.out) hb); have BK380 := Aside0.mk (hbox); have GW380 := Aside0.mk ((by rw [hg]; exact (below_size (bl_ HB.out)) : w.heap.size ≤ gb380)); have GE380 := Aside0.mk ((by rw [hg]; exact (below_size (bl_ HB.out)) : w.heap.size ≤ gb380)); replace HB := Aside0.mk (below_step (bl_ HB.out) hb); clear hb hbox hg; have hcz24_0 := cz_ BK380.out 0 (.int .i64 0); have hcz24_1 := cz_ BK380.out 1 (.int .i64 0); have hfz24_0 := blk_frozen BK380.out 0; have hfz24_1 := blk_frozen BK380.out 1) | ((with_reducible refine gate_store (t := 46) (p := 8) rfl ?_); refine store_event (t := 46) (p := 8) (v := ?vo_w25) (w1 := ((w23.setCell ⟨gb380, 0, none⟩ (.int .i64 ((rd_T46 l1 x22_2).f0))).setCell ⟨gb380, 1, none⟩ (.int .i64 ((rd_T46 l1 x22_2).f1)))) ?hg ?ho ?hn ?hr ?_; (case ho => rfl); (case hg => rfl); (case hn => rfl); (case hr => first | (go_simp; done) | (go_simp; rfl)); intro w25 hw; replace HO_5 : Aside0 (Kd.R (Kd.int .i64) 3 w25 w.heap.size (fun _ => True) (.slice Ao7 x5_2.length co7) x5_2) := ⟨(by rw [hw]; exact (by (with_reducible repeat (first | apply Kd.R_alloc | apply Kd.R_drewN | apply Kd.R_drew)); exact Kd.R_mono (Kd.R_far (p := ⟨gb380, 1, none⟩) (Kd.R_far (p := ⟨gb380, 0, none⟩) (Kd.R_types HO_5.out BK380.out (by decide)) (fun _ hk => hk.2) (.int .i64 ((rd_T46 l1 x22_2).f0))) (fun _ hk => hk.2) (.int .i64 ((rd_T46 l1 x22_2).f1))) (fun _ hk => trivial)))⟩; replace BK380 : Aside0 (w25.heap[gb380]? = some (.cells #[.int .i64 ((rd_T46 l1 x22_2).f0), .int .i64 ((rd_T46 l1 x22_2).f1)] 46 (0, 0))) := ⟨(by rw [hw]; exact (by (with_reducible repeat (first | refine blk_drewN ?_ _ | refine blk_drew ?_ | refine blk_alloc ?_ _)); refine blk_put (cs := #[.int .i64 ((rd_T46 l1 x22_2).f0), .int .i64 0]) ?_ 1 _ rfl; (with_reducible repeat (first | refine blk_drewN ?_ _ | refine blk_drew ?_ | refine blk_alloc ?_ _)); refine blk_put (cs := #[.int .i64 0, .int .i64 0]) ?_ 0 _ rfl; (with_reducible repeat (first | refine blk_drewN ?_ _ | refine blk_drew ?_ | refine blk_alloc ?_ _)); exact BK380.out))⟩; replace HB : Aside0 (Below w.heap.size w w25) := ⟨(by rw [hw]; exact (bs_ HB.out GE380.out))⟩; clear hw; have hcz26_0 := cz_ BK380.out 0 (.int .i64 ((rd_T46 l1 x22_2).f0)); have hcz26_1 := cz_ BK380.out 1 (.int .i64 ((rd_T46 l1 x22_2).f1)); have hfz26_0 := blk_frozen BK380.out 0; have hfz26_1 := blk_frozen BK380.out 1; have p381 : 0 ≤ (((rd_T46 l1 x22_2).f0) : Int) := of_decide_eq_true as_; have q381 : ((rd_T46 l1 x22_2).f0) < (x5_2.length : Int) := of_decide_eq_true as_; obtain ⟨ad381, e381, hx381_0⟩ := Kd.at_int (Kd.R_reads' HO_5.out).2.2 ((rd_T46 l1 x22_2).f0) p381 q381; cases e381; replace p381 := eq_true p381; replace q381 := eq_true q381; have p19 : 0 ≤ (((rd_T46 l1 x22_2).f0) : Int) := of_decide_eq_true as_; have q19 : (((rd_T46 l1 x22_2).f0) : Int) < ((x5_2.length : Int) : Int) := of_decide_eq_true as_; obtain ⟨go19, co19, eo19, gb19, gl19, cl19, HG19⟩ := Kd.R_form HO_5.out (by omega); (first | cases eo19 | (injection eo19 with ea_ en_ ec_; (first | subst ea_ | (injection ea_ with ea_; subst ea_)); subst ec_; clear en_)); have GB19 := Aside0.mk gb19; have GG19 := Aside0.mk HG19; clear gb19 gl19 HG19; (first | simp only [add_plain] at hx381_0 | skip); obtain ⟨hx19_0, hf19_0⟩ := Kd.R_celln 0 HO_5.out (((rd_T46 l1 x22_2).f0) : Int) p19 q19; replace p19 := eq_true p19; replace q19 := eq_true q19; obtain ⟨hy27_, hz27_⟩ := Kd.R_celln 0 HO_5.out (((rd_T46 l1 x22_2).f0) : Int) (of_decide_eq_true as_) (of_decide_eq_true as_); have HP27 := Kd.R_putg HO_5.out (((rd_T46 l1 x22_2).f0) : Int) (wrap64 ((rd x5_2 ((rd_T46 l1 x22_2).f0)) + 1))) | ((with_reducible refine gate_store (t := 3) (p := 32) rfl ?_); refine store_event (t := 3) (p := 32) (v := ?vo_w28) (w1 := (w25.setCell ⟨go19, (((rd_T46 l1 x22_2).f0) : Int).toNat, none⟩ (.int .i64 (wrap64 ((rd x5_2 ((rd_T46 l1 x22_2).f0)) + 1))))) ?hg ?ho ?hn ?hr ?_; (case ho => rfl); (case hg => rfl); (case hn => rfl); (case hr => first | (go_simp; done) | (go_simp; rfl)); intro w28 hw; have hg : w25.grownBy w28 (some go19) := (by rw [hw]; exact HP27.2); have hp_ : Kd.R (Kd.int .i64) 3 w28 w.heap.size (fun _ => True) (.slice (some ⟨go19, 0, none⟩) x5_2.length co7) y382 := (by rw [hw, Ny382.out]; exact HP27.1); clear HP27; replace BK380 := Aside0.mk (blk_grown (g := gb380) (o := .cells #[.int .i64 ((rd_T46 l1 x22_2).f0), .int .i64 ((rd_T46 l1 x22_2).f1)] 46 (0, 0)) (bk_ BK380.out) hg (Kd.R_ne HO_5.out BK380.out (by decide))); replace HO_5 := Aside0.mk (hp_); replace HB := Aside0.mk ((by rw [hw]; exact below_set (HB.out) GB19.out : Below w.heap.size w w28)); clear hg hw hp_; have hcz29_0 := cz_ BK380.out 0 (.int .i64 ((rd_T46 l1 x22_2).f0)); have hcz29_1 := cz_ BK380.out 1 (.int .i64 ((rd_T46 l1 x22_2).f1)); have hfz29_0 := blk_frozen BK380.out 0; have hfz29_1 := blk_frozen BK380.out 1; have p383 : 0 ≤ (((rd_T46 l1 x22_2).f1) : Int) := of_decide_eq_true as_; have q383 : ((rd_T46 l1 x22_2).f1) < (y382.length : Int) := (by have h_ : (((rd_T46 l1 x22_2).f1) : Int) < ((x5_2.length : Int) : Int) := of_decide_eq_true as_; first | (have e_ := (Kd.R_reads' HO_5.out).1; omega) | simpa only [Ny382.out, List.length_set] using h_); have ql383 : ((((rd_T46 l1 x22_2).f1) : Int) < ((x5_2.length : Int) : Int)) = True := eq_true (of_decide_eq_true as_); obtain ⟨ad383, e383, hx383_0⟩ := Kd.at_int (Kd.R_reads' HO_5.out).2.2 ((rd_T46 l1 x22_2).f1) p383 q383; obtain rfl : (⟨go19, 0, none⟩ : Addr) = ad383 := (by injection e383); (first | simp only [add_plain] at hx383_0 | simp only [add_at] at hx383_0 | simp only [Addr.add, Nat.zero_add] at hx383_0 | skip); replace p383 := eq_true p383; replace q383 := eq_true q383; have p22 : 0 ≤ (((rd_T46 l1 x22_2).f1) : Int) := of_decide_eq_true as_; have q22 : (((rd_T46 l1 x22_2).f1) : Int) < ((x5_2.length : Int) : Int) := of_decide_eq_true as_; obtain ⟨hx22_0, hf22_0⟩ := Kd.R_celln 0 HO_5.out (((rd_T46 l1 x22_2).f1) : Int) p22 q22; replace p22 := eq_true p22; replace q22 := eq_true q22; obtain ⟨hy30_, hz30_⟩ := Kd.R_celln 0 HO_5.out (((rd_T46 l1 x22_2).f1) : Int) (of_decide_eq_true as_) (of_decide_eq_true as_); have HP30 := Kd.R_putg HO_5.out (((rd_T46 l1 x22_2).f1) : Int) (wrap64 ((rd y382 ((rd_T46 l1 x22_2).f1)) + 1))) | ((with_reducible refine gate_store (t := 3) (p := 39) rfl ?_); refine store_event (t := 3) (p := 39) (v := ?vo_w31) (w1 := (w28.setCell ⟨go19, (((rd_T46 l1 x22_2).f1) : Int).toNat, none⟩ (.int .i64 (wrap64 ((rd y382 ((rd_T46 l1 x22_2).f1)) + 1))))) ?hg ?ho ?hn ?hr ?_; (case ho => rfl); (case hg => rfl); (case hn => rfl); (case hr => first | (go_simp; done) | (go_simp; rfl)); intro w31 hw; have hg : w28.grownBy w31 (some go19) := (by rw [hw]; exact HP30.2); have hp_ : Kd.R (Kd.int .i64) 3 w31 w.heap.size (fun _ => True) (.slice (some ⟨go19, 0, none⟩) x5_2.length co7) y384 := (by rw [hw, Ny384.out]; exact HP30.1); clear HP30; replace BK380 := Aside0.mk (blk_grown (g := gb380) (o := .cells #[.int .i64 ((rd_T46 l1 x22_2).f0), .int .i64 ((rd_T46 l1 x22_2).f1)] 46 (0, 0)) (bk_ BK380.out) hg (Kd.R_ne HO_5.out BK380.out (by decide))); replace HO_5 := Aside0.mk (hp_); replace HB := Aside0.mk ((by rw [hw]; exact below_set (HB.out) GB19.out : Below w.heap.size w w31)); clear hg hw hp_))
               (try simp only [← hl5_2])
               go_roundg k2
               case measure => have := HK1.out; have := HK2.out; omega
               case rel => exact ⟨(y384), (wrap64 (x22_2 + 1)), (fs_), H', ⟨by have := HK1.out; have := HK2.out; omega⟩, ⟨by (try simp only [hl5_1]); (try simp only [hl5_2]); (with_reducible repeat (first | apply Kd.R_alloc | apply Kd.R_drewN | apply Kd.R_drew)); exact HO_5.out⟩, ⟨bs_ HB.out GE380.out⟩⟩
              ·rw [if_neg c21] at H
               exact absurd H (by simp)
             ·rw [if_neg c20] at H
              exact absurd H (by simp)
            ·rw [if_neg c18] at H
             exact absurd H (by simp)
           ·rw [if_neg c17] at H
            exact absurd H (by simp)
          ·rw [if_neg c16] at H
           exact absurd H (by simp)
         ·rw [if_neg c15] at H
          exact absurd H (by simp)
        ·rw [if_neg c14] at H
         have c14b0 : decide (x22_2 < (l1.length : Int)) = false := decide_eq_false c14; have c14b0q_ := c14b0
         (try simp only [hl5_1, hl5_2] at c14b0q_)
         clear c14; obtain rfl := Option.some.inj H
         go_wp2
         go_ret
         exact ⟨_, by first | rfl | (simp [errW_none, errW_some] <;> rfl) | (simp [*, errW_none, errW_some] <;> rfl), by (with_reducible repeat (first | apply Kd.R_alloc | apply Kd.R_drewN | apply Kd.R_drew)); exact HO_5.out, bl_ HB.out⟩
  ·rw [if_neg c4] at H
   exact absurd H (by simp)
 ·rw [if_neg c3] at H
  exact absurd H (by simp)
def spec_QuiddityOf.f (k : Nat) (a0 : Int) (l1 : List (S46)) : Option (List Int × Bool) := (spec_poGood.f k a0 l1).bind fun t385 => (if t385 = true then ((spec_poQuiddity.f k a0 l1).bind fun t386 => (some (t386, true))) else (some (([] : List Int), false)))
set_option maxHeartbeats 8000000 in
set_option maxRecDepth 100000 in
theorem spec_QuiddityOf.calls (k : Nat) (a0 : Int) (A1 : Option Addr) (c1 : Nat) (l1 : List (S46)) (r1 : List Int) (r2 : Bool) (w : World) (hr1 : Kd.C k46 w A1 l1.length l1) (hc1 : l1.length ≤ c1) (h : spec_QuiddityOf.f k a0 l1 = some (r1, r2)) :
  Calls Tryz.prog 7 #[.int .i64 a0, .slice A1 l1.length c1] w fun e w' => ∃ v0_ : Value, e = .returned (.tuple #[v0_, .bool r2]) ∧ Kd.R (Kd.int .i64) 3 w' w.heap.size (fun _ => True) v0_ r1 ∧ Below w.heap.size w w' := by
 have HR1 := Aside0.mk hr1; have HC1 := Aside0.mk hc1; clear hr1 hc1; have HB := Aside0.mk (Below.refl w.heap.size w); have H : ((spec_poGood.f k a0 l1).bind fun t385 => (if t385 = true then ((spec_poQuiddity.f k a0 l1).bind fun t386 => (some (t386, true))) else (some (([] : List Int), false)))) = some (r1, r2) := h
 clear h; replace H := Option.bind_eq_some_iff.mp H; obtain ⟨t385, A30, H⟩ := H; have A3 := Aside0.mk A30; clear A30
 by_cases c4 : t385 = true
 ·subst c4
  rw [if_pos rfl] at H
  replace H := Option.bind_eq_some_iff.mp H; obtain ⟨t386, A50, H⟩ := H; have A5 := Aside0.mk A50; clear A50
  simp only [Option.some.injEq, Prod.mk.injEq] at H
  obtain ⟨rfl, rfl⟩ := H
  go_enter Tryz.func7, Tryz.ntmps7
  go_wp2_with (first | ((with_reducible refine gate_callee (f := 34) rfl ?_); refine gl_ (some 8) Tryz.func34 #[.int .i64 a0, .slice A1 l1.length c1] rfl ?_; (with_reducible refine (spec_poGood.calls k a0 _ _ l1 true _ ?side1 ?side2 A3.out).mono ?_); (case side1 => exact cc_ HR1.out); (case side2 => exact HC1.out); rintro e w6 ⟨rfl, hb⟩; refine ⟨_, rfl, ?_⟩; replace HB := Aside0.mk (below_step (bl_ HB.out) hb); (try clear hb); (try clear hb2); (try clear hk); (try clear hi)) | ((with_reducible refine gate_callee (f := 35) rfl ?_); refine gl_ (some 12) Tryz.func35 #[.int .i64 a0, .slice A1 l1.length c1] rfl ?_; (with_reducible refine (spec_poQuiddity.calls k a0 _ _ l1 t386 _ ?side1 ?side2 A5.out).mono ?_); (case side1 => exact cc_ (Kd.C_below HR1.out HB.out)); (case side2 => exact HC1.out); rintro e w7 ⟨v387, rfl, ho0, hb⟩; refine ⟨_, rfl, ?_⟩; have HO388 := Aside0.mk (Kd.R_lower ho0 (below_size (bl_ HB.out))); replace HB := Aside0.mk (below_step (bl_ HB.out) hb); (try clear hb); (try clear hb2); (try clear hk); (try clear hi); (try clear ho0)))
  go_ret2
  exact ⟨_, by first | rfl | (simp [errW_none, errW_some] <;> rfl) | (simp [*, errW_none, errW_some] <;> rfl), by (with_reducible repeat (first | apply Kd.R_alloc | apply Kd.R_drewN | apply Kd.R_drew)); exact HO388.out, bl_ HB.out⟩
 ·replace c4 := Bool.eq_false_iff.mpr c4
  subst c4; rw [if_neg (show ¬ (false = true) by decide)] at H
  simp only [Option.some.injEq, Prod.mk.injEq] at H
  obtain ⟨rfl, rfl⟩ := H
  go_enter Tryz.func7, Tryz.ntmps7
  go_wp2_with (first | ((with_reducible refine gate_callee (f := 34) rfl ?_); refine gl_ (some 8) Tryz.func34 #[.int .i64 a0, .slice A1 l1.length c1] rfl ?_; (with_reducible refine (spec_poGood.calls k a0 _ _ l1 false _ ?side1 ?side2 A3.out).mono ?_); (case side1 => exact cc_ HR1.out); (case side2 => exact HC1.out); rintro e w8 ⟨rfl, hb⟩; refine ⟨_, rfl, ?_⟩; replace HB := Aside0.mk (below_step (bl_ HB.out) hb); (try clear hb); (try clear hb2); (try clear hk); (try clear hi)))
  go_ret2
  exact ⟨_, by first | rfl | (simp [errW_none, errW_some] <;> rfl) | (simp [*, errW_none, errW_some] <;> rfl), by first | exact Kd.R_nil _ _ _ _ _ | exact Kd.N_nil _ _ _ _ _ | exact Kd.V_nil _ _ _ _ _ | exact Kd.Q_nil _ _ _ _ _ | exact Kd.S_nil _ _ _ _ _, bl_ HB.out⟩
def spec_EarsOf.l0 : Nat → List Int → List Int → Int → Int → Option (List Int × Bool)
 | 0, _, _, _, _ => none
 | k + 1, x6, x15, x16, x17 => if x17 < x16 then (if 0 ≤ x17 then (if x17 < (x15.length : Int) then (if (rd x15 x17) = 1 then (if x6.length < 17592186044416 then (spec_EarsOf.l0 k (x6 ++ [x17]) x15 x16 (wrap64 (x17 + 1))) else (none)) else (spec_EarsOf.l0 k x6 x15 x16 (wrap64 (x17 + 1)))) else (none)) else (none)) else (some (x6, true))
def spec_EarsOf.f (k : Nat) (a0 : Int) (l1 : List (S46)) : Option (List Int × Bool) := (spec_poGood.f k a0 l1).bind fun t400 => (if t400 = true then ((spec_poQuiddity.f k a0 l1).bind fun t401 => (spec_EarsOf.l0 k ([] : List Int) t401 (t401.length : Int) 0)) else (some (([] : List Int), false)))
set_option maxHeartbeats 8000000 in
set_option maxRecDepth 100000 in
theorem spec_EarsOf.calls (k : Nat) (a0 : Int) (A1 : Option Addr) (c1 : Nat) (l1 : List (S46)) (r1 : List Int) (r2 : Bool) (w : World) (hr1 : Kd.C k46 w A1 l1.length l1) (hc1 : l1.length ≤ c1) (h : spec_EarsOf.f k a0 l1 = some (r1, r2)) :
  Calls Tryz.prog 9 #[.int .i64 a0, .slice A1 l1.length c1] w fun e w' => ∃ v0_ : Value, e = .returned (.tuple #[v0_, .bool r2]) ∧ Kd.R (Kd.int .i64) 3 w' w.heap.size (fun _ => True) v0_ r1 ∧ Below w.heap.size w w' := by
 have HR1 := Aside0.mk hr1; have HC1 := Aside0.mk hc1; clear hr1 hc1; have HB := Aside0.mk (Below.refl w.heap.size w); have H : ((spec_poGood.f k a0 l1).bind fun t400 => (if t400 = true then ((spec_poQuiddity.f k a0 l1).bind fun t401 => (spec_EarsOf.l0 k ([] : List Int) t401 (t401.length : Int) 0)) else (some (([] : List Int), false)))) = some (r1, r2) := h
 clear h; replace H := Option.bind_eq_some_iff.mp H; obtain ⟨t400, A30, H⟩ := H; have A3 := Aside0.mk A30; clear A30
 by_cases c4 : t400 = true
 ·subst c4
  rw [if_pos rfl] at H
  replace H := Option.bind_eq_some_iff.mp H; obtain ⟨t401, A50, H⟩ := H; have A5 := Aside0.mk A50; clear A50; have H' := Aside0.mk H; clear H
  go_enter Tryz.func9, Tryz.ntmps9
  go_wp2_with (first | ((with_reducible refine gate_callee (f := 34) rfl ?_); refine gl_ (some 11) Tryz.func34 #[.int .i64 a0, .slice A1 l1.length c1] rfl ?_; (with_reducible refine (spec_poGood.calls k a0 _ _ l1 true _ ?side1 ?side2 A3.out).mono ?_); (case side1 => exact cc_ HR1.out); (case side2 => exact HC1.out); rintro e w6 ⟨rfl, hb⟩; refine ⟨_, rfl, ?_⟩; replace HB := Aside0.mk (below_step (bl_ HB.out) hb); (try clear hb); (try clear hb2); (try clear hk); (try clear hi)) | ((with_reducible refine gate_callee (f := 35) rfl ?_); refine gl_ (some 15) Tryz.func35 #[.int .i64 a0, .slice A1 l1.length c1] rfl ?_; (with_reducible refine (spec_poQuiddity.calls k a0 _ _ l1 t401 _ ?side1 ?side2 A5.out).mono ?_); (case side1 => exact cc_ (Kd.C_below HR1.out HB.out)); (case side2 => exact HC1.out); rintro e w7 ⟨v402, rfl, ho0, hb⟩; refine ⟨_, rfl, ?_⟩; have HO403 := Aside0.mk (Kd.R_lower ho0 (below_size (bl_ HB.out))); replace HB := Aside0.mk (below_step (bl_ HB.out) hb); (try clear hb); (try clear hb2); (try clear hk); (try clear hi); (try clear ho0); obtain ⟨Ao8, co8, eo8⟩ := Kd.R_slice HO403.out; subst eo8))
  go_loopg [6, 17] k (fun kq v6 v17 w' => ∃ (x6_1 : List Int) (x17_1 : Int), v17 = .int .i64 x17_1 ∧ Aside0 (spec_EarsOf.l0 kq x6_1 t401 (t401.length : Int) x17_1 = some (r1, r2)) ∧ Aside0 (kq ≤ k) ∧ Aside0 (Kd.R (Kd.int .i64) 3 w' w.heap.size (fun k_ => some k_ ≠ ((.slice Ao8 t401.length co8) : Value).ownBlock) v6 x6_1) ∧ Aside0 (Kd.R (Kd.int .i64) 3 w' w.heap.size (fun k_ => some k_ ≠ (v6 : Value).ownBlock) (.slice Ao8 t401.length co8) t401) ∧ Aside0 (Below w.heap.size w w'))
  case atStart => exact ⟨(([] : List Int)), (0), (fs_), H', ⟨Nat.le_refl _⟩, ⟨by first | exact Kd.R_nil _ _ _ _ _ | exact Kd.N_nil _ _ _ _ _ | exact Kd.V_nil _ _ _ _ _ | exact Kd.Q_nil _ _ _ _ _ | exact Kd.S_nil _ _ _ _ _⟩, ⟨by (with_reducible repeat (first | apply Kd.R_alloc | apply Kd.R_drewN | apply Kd.R_drew)); exact Kd.R_mono HO403.out (fun _ hk => (by simp [Value.ownBlock]))⟩, ⟨bl_ HB.out⟩⟩
  case round =>
   clear H'
   try clear c1
   try clear p2
   try clear c3
   try clear c4
   obtain ⟨x6_1, x17_1, rfl, HA, HK1, HO_6, HO_15, HB⟩ := hrel
   cases gk with
   | zero => exact absurd HA.out (by simp [spec_EarsOf.l0])
   | succ k1 =>
    have H := HA.out; clear HA
    simp only [spec_EarsOf.l0] at H
    by_cases c9 : x17_1 < (t401.length : Int)
    ·rw [if_pos c9] at H
     have c9b0 : decide (x17_1 < (t401.length : Int)) = true := decide_eq_true c9; clear c9
     by_cases c10 : 0 ≤ x17_1
     ·rw [if_pos c10] at H
      have c10b0 : decide (0 ≤ x17_1) = true := decide_eq_true c10; clear c10
      by_cases c11 : x17_1 < (t401.length : Int)
      ·rw [if_pos c11] at H
       have c11b0 : decide (x17_1 < (t401.length : Int)) = true := decide_eq_true c11; clear c11
       by_cases c12 : (rd t401 x17_1) = 1
       ·rw [if_pos c12] at H
        have c12b0 : ((rd t401 x17_1) == 1) = true := beq_iff_eq.mpr c12; have c12b1 : ((rd t401 x17_1) != 1) = false := bne_eq_false_iff_eq.mpr c12; clear c12
        by_cases c13 : x6_1.length < 17592186044416
        ·rw [if_pos c13] at H
         have LMc13 := Aside0.mk c13; clear c13; obtain ⟨y405, hy405⟩ : ∃ y_ : List Int, y_ = (x6_1 ++ [x17_1]) := ⟨_, rfl⟩; replace H : (spec_EarsOf.l0 k1 y405 t401 (t401.length : Int) (wrap64 (x17_1 + 1))) = some (r1, r2) := rh_ hy405 H; have Ny405 := Aside0.mk hy405; clear hy405; have H' := Aside0.mk H; clear H; have p404 : 0 ≤ (x17_1 : Int) := of_decide_eq_true as_; have q404 : x17_1 < (t401.length : Int) := of_decide_eq_true as_; obtain ⟨ad404, e404, hx404_0⟩ := Kd.at_int (Kd.R_reads' HO_15.out).2.2 x17_1 p404 q404
         cases e404
         replace p404 := eq_true p404; replace q404 := eq_true q404
         go_wp2_with (first | ((with_reducible refine gate_builtin (b := .append) (xs := #[.tmp 24, .tmp 26]) rfl ?_); at_builtin; refine Kd.R_append (Kd.int .i64) (w0 := w) w.heap.size rfl (.tmp 24) (.tmp 26) 27 3 (.int .i64 0) 8 rfl Tryz.underlying27 info3 rfl (by decide) (by omega) u6 x6_1 x17_1 [.int .i64 x17_1] (fun k_ => some k_ ≠ (.slice (some ad404) t401.length co8 : Value).ownBlock) (fun _ => False) rfl rfl ?aP (fun _ hk => hk.elim) ?aF ?aO ?aB ?aS ?aL ?_; (case aP => exact rfl); (case aB => exact (bl_ HB.out)); (case aF => exact (fun k_ hk => Kd.fresh' (Kd.R_lt (kr_ HO_15.out)) k_ hk)); (case aO => exact (kr_ HO_6.out)); (case aS => exact (below_size (bl_ HB.out))); (case aL => have := LMc13.out; omega); intro v406 w14 ho hb hg hat; rw [← Ny405.out] at ho; replace HO_15 := Aside0.mk (Kd.R_after (ok := (fun _ => True)) (by (with_reducible repeat (first | apply Kd.R_alloc | apply Kd.R_drewN | apply Kd.R_drew)); exact Kd.R_mono HO_15.out (fun _ hk => ⟨trivial, hk⟩)) hg hat); replace HB := Aside0.mk (hb); have HO407 := Aside0.mk (ho); clear HO_6 ho hb hg hat))
         go_roundg k1
         case measure => have := HK1.out; omega
         case rel => exact ⟨(y405), (wrap64 (x17_1 + 1)), (fs_), H', ⟨by have := HK1.out; omega⟩, ⟨kr_ HO407.out⟩, ⟨by (with_reducible repeat (first | apply Kd.R_alloc | apply Kd.R_drewN | apply Kd.R_drew)); exact Kd.R_mono HO_15.out (fun _ hk => hk.2)⟩, ⟨bl_ HB.out⟩⟩
        ·rw [if_neg c13] at H
         exact absurd H (by simp)
       ·rw [if_neg c12] at H
        have c12b0 : ((rd t401 x17_1) == 1) = false := beq_eq_false_iff_ne.mpr c12; have c12b1 : ((rd t401 x17_1) != 1) = true := bne_iff_ne.mpr c12; have H' := Aside0.mk H; clear H; have p404 : 0 ≤ (x17_1 : Int) := of_decide_eq_true as_; have q404 : x17_1 < (t401.length : Int) := of_decide_eq_true as_; obtain ⟨ad404, e404, hx404_0⟩ := Kd.at_int (Kd.R_reads' HO_15.out).2.2 x17_1 p404 q404
        cases e404
        replace p404 := eq_true p404; replace q404 := eq_true q404
        go_wp2
        go_roundg k1
        case measure => have := HK1.out; omega
        case rel => exact ⟨(x6_1), (wrap64 (x17_1 + 1)), (fs_), H', ⟨by have := HK1.out; omega⟩, ⟨kr_ HO_6.out⟩, ⟨kr_ HO_15.out⟩, ⟨bl_ HB.out⟩⟩
      ·rw [if_neg c11] at H
       exact absurd H (by simp)
     ·rw [if_neg c10] at H
      exact absurd H (by simp)
    ·rw [if_neg c9] at H
     have c9b0 : decide (x17_1 < (t401.length : Int)) = false := decide_eq_false c9; clear c9
     simp only [Option.some.injEq, Prod.mk.injEq] at H
     obtain ⟨rfl, rfl⟩ := H
     go_wp2
     go_ret2
     exact ⟨_, by first | rfl | (simp [errW_none, errW_some] <;> rfl) | (simp [*, errW_none, errW_some] <;> rfl), by (with_reducible repeat (first | apply Kd.R_alloc | apply Kd.R_drewN | apply Kd.R_drew)); exact Kd.R_mono HO_6.out (fun _ hk => trivial), bl_ HB.out⟩
 ·replace c4 := Bool.eq_false_iff.mpr c4
  subst c4; rw [if_neg (show ¬ (false = true) by decide)] at H
  simp only [Option.some.injEq, Prod.mk.injEq] at H
  obtain ⟨rfl, rfl⟩ := H
  go_enter Tryz.func9, Tryz.ntmps9
  go_wp2_with (first | ((with_reducible refine gate_callee (f := 34) rfl ?_); refine gl_ (some 11) Tryz.func34 #[.int .i64 a0, .slice A1 l1.length c1] rfl ?_; (with_reducible refine (spec_poGood.calls k a0 _ _ l1 false _ ?side1 ?side2 A3.out).mono ?_); (case side1 => exact cc_ HR1.out); (case side2 => exact HC1.out); rintro e w15 ⟨rfl, hb⟩; refine ⟨_, rfl, ?_⟩; replace HB := Aside0.mk (below_step (bl_ HB.out) hb); (try clear hb); (try clear hb2); (try clear hk); (try clear hi)))
  go_ret2
  exact ⟨_, by first | rfl | (simp [errW_none, errW_some] <;> rfl) | (simp [*, errW_none, errW_some] <;> rfl), by first | exact Kd.R_nil _ _ _ _ _ | exact Kd.N_nil _ _ _ _ _ | exact Kd.V_nil _ _ _ _ _ | exact Kd.Q_nil _ _ _ _ _ | exact Kd.S_nil _ _ _ _ _, bl_ HB.out⟩
mutual
def spec_poJoined.j0 : Nat → List (S46) → Int → Int → Bool → Option (Bool)
 | 0, _, _, _, _ => none
 | k + 1, x1, x2, x3, x22 => if x22 = true then (some true) else (spec_poJoined.l0 k x2 x3 x1 (x1.length : Int) 0)
def spec_poJoined.l0 : Nat → Int → Int → List (S46) → Int → Int → Option (Bool)
 | 0, _, _, _, _, _ => none
 | k + 1, x2, x3, x23, x24, x25 => if x25 < x24 then (if 0 ≤ x25 then (if x25 < (x23.length : Int) then (if ((rd_T46 x23 x25).f0) = x2 then (if ((rd_T46 x23 x25).f1) = x3 then (some true) else (spec_poJoined.l0 k x2 x3 x23 x24 (wrap64 (x25 + 1)))) else (spec_poJoined.l0 k x2 x3 x23 x24 (wrap64 (x25 + 1)))) else (none)) else (none)) else (some false)
end
def spec_poJoined.f (k : Nat) (a0 : Int) (l1 : List (S46)) (a2 : Int) (a3 : Int) : Option (Bool) := if (wrap64 (a3 - a2)) = 1 then (spec_poJoined.j0 k l1 a2 a3 true) else (spec_poJoined.j0 k l1 a2 a3 ((wrap64 (a3 - a2)) == (wrap64 (a0 - 1))))
set_option maxHeartbeats 8000000 in
set_option maxRecDepth 100000 in
theorem spec_poJoined.calls (k : Nat) (a0 : Int) (A1 : Option Addr) (c1 : Nat) (l1 : List (S46)) (a2 : Int) (a3 : Int) (r : Bool) (w : World) (hr1 : Kd.C k46 w A1 l1.length l1) (hc1 : l1.length ≤ c1) (h : spec_poJoined.f k a0 l1 a2 a3 = some r) :
  Calls Tryz.prog 63 #[.int .i64 a0, .slice A1 l1.length c1, .int .i64 a2, .int .i64 a3] w fun e w' => e = .returned (.bool r) ∧ Below w.heap.size w w' := by
 have hu46 := Tryz.underlying46; have HR1 := Aside0.mk hr1; have HC1 := Aside0.mk hc1; clear hr1 hc1; have HB := Aside0.mk (Below.refl w.heap.size w); have H : (if (wrap64 (a3 - a2)) = 1 then (spec_poJoined.j0 k l1 a2 a3 true) else (spec_poJoined.j0 k l1 a2 a3 ((wrap64 (a3 - a2)) == (wrap64 (a0 - 1))))) = some r := h
 clear h; have HC5 := Aside0.mk H; clear H
 go_enter Tryz.func63, Tryz.ntmps63
 go_upto_region 1 with (fail)
 go_cut [22] (fun v22 wc => ∃ (kq : Nat) (x22_4 : Bool), v22 = .bool x22_4 ∧ Aside0 (spec_poJoined.j0 kq l1 a2 a3 x22_4 = some r) ∧ Aside0 (kq ≤ k) ∧ Aside0 (Below w.heap.size w wc))
 case first =>
  have H := HC5.out; clear HC5
  by_cases c6 : (wrap64 (a3 - a2)) = 1
  ·rw [if_pos c6] at H
   have c6b0 : ((wrap64 (a3 - a2)) == 1) = true := beq_iff_eq.mpr c6; have c6b1 : ((wrap64 (a3 - a2)) != 1) = false := bne_eq_false_iff_eq.mpr c6; clear c6
   (first | rw [c6b0] | (simp only [i64_w, i32_w]; rw [c6b0]) | skip)
   have H' := Aside0.mk H; clear H
   go_wp2
   go_meet
   case rel => exact ⟨_, (true), (fs_), H', ⟨by first | omega | exact Nat.le_refl _⟩, ⟨bl_ HB.out⟩⟩
  ·rw [if_neg c6] at H
   have c6b0 : ((wrap64 (a3 - a2)) == 1) = false := beq_eq_false_iff_ne.mpr c6; have c6b1 : ((wrap64 (a3 - a2)) != 1) = true := bne_iff_ne.mpr c6
   (first | rw [c6b0] | (simp only [i64_w, i32_w]; rw [c6b0]) | skip)
   have H' := Aside0.mk H; clear H
   go_wp2
   go_meet
   case rel => exact ⟨_, (((wrap64 (a3 - a2)) == (wrap64 (a0 - 1)))), (fs_), H', ⟨by first | omega | exact Nat.le_refl _⟩, ⟨bl_ HB.out⟩⟩
 case rest =>
  clear HC5
  try clear c1
  try clear p2
  try clear c6
  try clear c6b0
  try clear c6b1
  try clear p6
  obtain ⟨kq, x22_4, rfl, HA, HJ4, HB⟩ := hcut
  cases kq with
  | zero => exact absurd HA.out (by simp [spec_poJoined.j0])
  | succ kj4 =>
   have H := HA.out; clear HA
   simp only [spec_poJoined.j0] at H
   by_cases c7 : x22_4 = true
   ·subst c7
    rw [if_pos rfl] at H
    obtain rfl := Option.some.inj H
    go_wp2
    go_ret
    exact ⟨by first | rfl | (simp [errW_none, errW_some] <;> rfl) | (simp [*, errW_none, errW_some] <;> rfl), bl_ HB.out⟩
   ·replace c7 := Bool.eq_false_iff.mpr c7
    subst c7; rw [if_neg (show ¬ (false = true) by decide)] at H
    have H' := Aside0.mk H; clear H
    go_wp2
    go_loopg [25] kj4 (fun kq v25 w' => ∃ (x25_2 : Int), v25 = .int .i64 x25_2 ∧ Aside0 (spec_poJoined.l0 kq a2 a3 l1 (l1.length : Int) x25_2 = some r) ∧ Aside0 (kq ≤ kj4) ∧ Aside0 (Below w.heap.size w w'))
    case atStart => exact ⟨(0), (fs_), H', ⟨Nat.le_refl _⟩, ⟨bl_ HB.out⟩⟩
    case round =>
     clear H'
     try clear c1
     try clear p2
     try clear c6
     try clear c6b0
     try clear c6b1
     try clear p6
     try clear c7
     try clear p2
     try clear p6
     obtain ⟨x25_2, rfl, HA, HK2, HB⟩ := hrel
     cases gk with
     | zero => exact absurd HA.out (by simp [spec_poJoined.l0])
     | succ k2 =>
      have H := HA.out; clear HA
      simp only [spec_poJoined.l0] at H
      by_cases c8 : x25_2 < (l1.length : Int)
      ·rw [if_pos c8] at H
       have c8b0 : decide (x25_2 < (l1.length : Int)) = true := decide_eq_true c8; clear c8
       by_cases c9 : 0 ≤ x25_2
       ·rw [if_pos c9] at H
        have c9b0 : decide (0 ≤ x25_2) = true := decide_eq_true c9; clear c9
        by_cases c10 : x25_2 < (l1.length : Int)
        ·rw [if_pos c10] at H
         have c10b0 : decide (x25_2 < (l1.length : Int)) = true := decide_eq_true c10; clear c10
         by_cases c11 : ((rd_T46 l1 x25_2).f0) = a2
         ·rw [if_pos c11] at H
          have c11b0 : (((rd_T46 l1 x25_2).f0) == a2) = true := beq_iff_eq.mpr c11; have c11b1 : (((rd_T46 l1 x25_2).f0) != a2) = false := bne_eq_false_iff_eq.mpr c11; clear c11
          by_cases c12 : ((rd_T46 l1 x25_2).f1) = a3
          ·rw [if_pos c12] at H
           have c12b0 : (((rd_T46 l1 x25_2).f1) == a3) = true := beq_iff_eq.mpr c12; have c12b1 : (((rd_T46 l1 x25_2).f1) != a3) = false := bne_eq_false_iff_eq.mpr c12; clear c12; obtain rfl := Option.some.inj H; have p430 : 0 ≤ (x25_2 : Int) := of_decide_eq_true as_; have q430 : x25_2 < (l1.length : Int) := of_decide_eq_true as_; obtain ⟨ad430, e430, hx430_0, hx430_1⟩ := at_T46 HR1.out x25_2 p430 q430
           cases e430
           replace hx430_0 := (HB.out.cell (World.block_lt_of_cell? w _ hx430_0)).trans hx430_0; replace hx430_1 := (HB.out.cell (World.block_lt_of_cell? w _ hx430_1)).trans hx430_1; replace p430 := eq_true p430; replace q430 := eq_true q430
           go_wp2_with (first | ((with_reducible refine gate_dst (N := 10) rfl ?_); refine be_ #[.int .i64 0, .int .i64 0] 46 ?_; intro gb431 hg w13 hbox hb; have BK431 := Aside0.mk (hbox); have GW431 := Aside0.mk ((by rw [hg]; exact (below_size (bl_ HB.out)) : w.heap.size ≤ gb431)); have GE431 := Aside0.mk ((by rw [hg]; exact (below_size (bl_ HB.out)) : w.heap.size ≤ gb431)); replace HB := Aside0.mk (below_step (bl_ HB.out) hb); clear hb hbox hg; have hcz14_0 := cz_ BK431.out 0 (.int .i64 0); have hcz14_1 := cz_ BK431.out 1 (.int .i64 0); have hfz14_0 := blk_frozen BK431.out 0; have hfz14_1 := blk_frozen BK431.out 1))
           go_ret
           exact ⟨by first | rfl | (simp [errW_none, errW_some] <;> rfl) | (simp [*, errW_none, errW_some] <;> rfl), bs_ HB.out GE431.out⟩
          ·rw [if_neg c12] at H
           have c12b0 : (((rd_T46 l1 x25_2).f1) == a3) = false := beq_eq_false_iff_ne.mpr c12; have c12b1 : (((rd_T46 l1 x25_2).f1) != a3) = true := bne_iff_ne.mpr c12; have H' := Aside0.mk H; clear H; have p430 : 0 ≤ (x25_2 : Int) := of_decide_eq_true as_; have q430 : x25_2 < (l1.length : Int) := of_decide_eq_true as_; obtain ⟨ad430, e430, hx430_0, hx430_1⟩ := at_T46 HR1.out x25_2 p430 q430
           cases e430
           replace hx430_0 := (HB.out.cell (World.block_lt_of_cell? w _ hx430_0)).trans hx430_0; replace hx430_1 := (HB.out.cell (World.block_lt_of_cell? w _ hx430_1)).trans hx430_1; replace p430 := eq_true p430; replace q430 := eq_true q430
           go_wp2_with (first | ((with_reducible refine gate_dst (N := 10) rfl ?_); refine be_ #[.int .i64 0, .int .i64 0] 46 ?_; intro gb431 hg w15 hbox hb; have BK431 := Aside0.mk (hbox); have GW431 := Aside0.mk ((by rw [hg]; exact (below_size (bl_ HB.out)) : w.heap.size ≤ gb431)); have GE431 := Aside0.mk ((by rw [hg]; exact (below_size (bl_ HB.out)) : w.heap.size ≤ gb431)); replace HB := Aside0.mk (below_step (bl_ HB.out) hb); clear hb hbox hg; have hcz16_0 := cz_ BK431.out 0 (.int .i64 0); have hcz16_1 := cz_ BK431.out 1 (.int .i64 0); have hfz16_0 := blk_frozen BK431.out 0; have hfz16_1 := blk_frozen BK431.out 1))
           go_roundg k2
           case measure => have := HJ4.out; have := HK2.out; omega
           case rel => exact ⟨(wrap64 (x25_2 + 1)), (fs_), H', ⟨by have := HJ4.out; have := HK2.out; omega⟩, ⟨bs_ HB.out GE431.out⟩⟩
         ·rw [if_neg c11] at H
          have c11b0 : (((rd_T46 l1 x25_2).f0) == a2) = false := beq_eq_false_iff_ne.mpr c11; have c11b1 : (((rd_T46 l1 x25_2).f0) != a2) = true := bne_iff_ne.mpr c11; have H' := Aside0.mk H; clear H; have p430 : 0 ≤ (x25_2 : Int) := of_decide_eq_true as_; have q430 : x25_2 < (l1.length : Int) := of_decide_eq_true as_; obtain ⟨ad430, e430, hx430_0, hx430_1⟩ := at_T46 HR1.out x25_2 p430 q430
          cases e430
          replace hx430_0 := (HB.out.cell (World.block_lt_of_cell? w _ hx430_0)).trans hx430_0; replace hx430_1 := (HB.out.cell (World.block_lt_of_cell? w _ hx430_1)).trans hx430_1; replace p430 := eq_true p430; replace q430 := eq_true q430
          go_wp2_with (first | ((with_reducible refine gate_dst (N := 10) rfl ?_); refine be_ #[.int .i64 0, .int .i64 0] 46 ?_; intro gb431 hg w17 hbox hb; have BK431 := Aside0.mk (hbox); have GW431 := Aside0.mk ((by rw [hg]; exact (below_size (bl_ HB.out)) : w.heap.size ≤ gb431)); have GE431 := Aside0.mk ((by rw [hg]; exact (below_size (bl_ HB.out)) : w.heap.size ≤ gb431)); replace HB := Aside0.mk (below_step (bl_ HB.out) hb); clear hb hbox hg; have hcz18_0 := cz_ BK431.out 0 (.int .i64 0); have hcz18_1 := cz_ BK431.out 1 (.int .i64 0); have hfz18_0 := blk_frozen BK431.out 0; have hfz18_1 := blk_frozen BK431.out 1))
          go_roundg k2
          case measure => have := HJ4.out; have := HK2.out; omega
          case rel => exact ⟨(wrap64 (x25_2 + 1)), (fs_), H', ⟨by have := HJ4.out; have := HK2.out; omega⟩, ⟨bs_ HB.out GE431.out⟩⟩
        ·rw [if_neg c10] at H
         exact absurd H (by simp)
       ·rw [if_neg c9] at H
        exact absurd H (by simp)
      ·rw [if_neg c8] at H
       have c8b0 : decide (x25_2 < (l1.length : Int)) = false := decide_eq_false c8; clear c8; obtain rfl := Option.some.inj H
       go_wp2
       go_ret
       exact ⟨by first | rfl | (simp [errW_none, errW_some] <;> rfl) | (simp [*, errW_none, errW_some] <;> rfl), bl_ HB.out⟩
end Go.Proofs.YtobddjeefcoikaaGreat.PFnQuidditiesTell
