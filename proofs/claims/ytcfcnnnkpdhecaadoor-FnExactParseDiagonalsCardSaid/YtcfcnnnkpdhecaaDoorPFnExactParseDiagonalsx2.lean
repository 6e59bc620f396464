-- Written for this claim by a program of this session (wip/tools/xprint.py over the kit's printer, wip/tools/shrink.py).
import Derived.Test.YtcfcnnnkpdhecaaDoorPFnExactParseDiagonalsx0
import Derived.Test.YtcfcnnnkpdhecaaDoorPFnExactParseDiagonalsx1
namespace Go.Proofs.YtcfcnnnkpdhecaaDoor.PFnExactParseDiagonals
open Go.RowKit Go.Proofs.YtcfcnnnkpdhecaaDoorW.PrintWords Go.Proofs.YtcfcnnnkpdhecaaDoorW.PrintLast Go.Proofs.YtcfcnnnkpdhecaaDoorW.PrintMore
attribute [local go_sem] max2_int min2_int max_two min_two max_three min_three max_four min_four   -- for this text's walks alone
set_option linter.unusedVariables false
set_option linter.unusedSimpArgs false
def spec_poText.l0 : Nat → ByteArray → List (S37) → Int → Int → Option (ByteArray)
 | 0, _, _, _, _ => none
 | k + 1, x3, x9, x10, x11 => if x11 < x10 then (if 0 ≤ x11 then (if x11 < (x9.length : Int) then (if x11 > 0 then (if x3.size + 1 ≤ 9223372036854775807 then ((spec_l1Num.f k ((rd_T37 x9 x11).f0)).bind fun t114 => (if t114.size + 1 ≤ 9223372036854775807 then ((spec_l1Num.f k ((rd_T37 x9 x11).f1)).bind fun t115 => (if (t114 ++ (⟨#[45]⟩ : ByteArray)).size + t115.size ≤ 9223372036854775807 then (if (x3 ++ (⟨#[44]⟩ : ByteArray)).size + ((t114 ++ (⟨#[45]⟩ : ByteArray)) ++ t115).size ≤ 9223372036854775807 then (spec_poText.l0 k ((x3 ++ (⟨#[44]⟩ : ByteArray)) ++ ((t114 ++ (⟨#[45]⟩ : ByteArray)) ++ t115)) x9 x10 (wrap64 (x11 + 1))) else (none)) else (none))) else (none))) else (none)) else ((spec_l1Num.f k ((rd_T37 x9 x11).f0)).bind fun t116 => (if t116.size + 1 ≤ 9223372036854775807 then ((spec_l1Num.f k ((rd_T37 x9 x11).f1)).bind fun t117 => (if (t116 ++ (⟨#[45]⟩ : ByteArray)).size + t117.size ≤ 9223372036854775807 then (if x3.size + ((t116 ++ (⟨#[45]⟩ : ByteArray)) ++ t117).size ≤ 9223372036854775807 then (spec_poText.l0 k (x3 ++ ((t116 ++ (⟨#[45]⟩ : ByteArray)) ++ t117)) x9 x10 (wrap64 (x11 + 1))) else (none)) else (none))) else (none)))) else (none)) else (none)) else (some x3)
def spec_poText.f (k : Nat) (l0 : List (S37)) : Option (ByteArray) := if (l0.length : Int) = 0 then (some (⟨#[46]⟩ : ByteArray)) else (spec_poText.l0 k (⟨#[]⟩ : ByteArray) l0 (l0.length : Int) 0)
def spec_poText.T9 : Bool × List (List Nat × List Nat) := (true, [([], []), ([], []), ([1], [1]), ([2], [2]), ([3], [3]), ([], []), ([5], [5]), ([6, 3], [6]), ([4, 7], [4, 7]), ([0, 8], [0, 8]), ([9, 7, 0, 1, 2, 3, 4, 5, 6, 7, 8, 9], [0, 9])])
def spec_poText.B9 : List Nat := [0, 0, 2, 6, 14, 0, 32, 110, 254, 511, 1023]
theorem spec_poText.tab9 : rtab .any (opsOf Tryd.f18 9) = spec_poText.T9 := by kernel_rfl
theorem spec_poText.bits9 : waitsOk spec_poText.T9.2 spec_poText.B9 = true := by kernel_rfl
set_option maxHeartbeats 8000000 in
set_option maxRecDepth 100000 in
theorem spec_poText.calls (k : Nat) (A0 : Option Addr) (c0 : Nat) (l0 : List (S37)) (r : ByteArray) (w : World) (hr0 : Kd.C k37 w A0 l0.length l0) (hc0 : l0.length ≤ c0) (h : spec_poText.f k l0 = some r) :
  Calls Tryd.prog 18 #[.slice A0 l0.length c0] w fun e w' => e = .returned (.string r) ∧ Below w.heap.size w w' := by
 have hu37 := Tryd.underlying37; have HR0 := Aside0.mk hr0; have HC0 := Aside0.mk hc0; clear hr0 hc0; have HB := Aside0.mk (Below.refl w.heap.size w); have H : (if (l0.length : Int) = 0 then (some (⟨#[46]⟩ : ByteArray)) else (spec_poText.l0 k (⟨#[]⟩ : ByteArray) l0 (l0.length : Int) 0)) = some r := h
 clear h
 by_cases c2 : (l0.length : Int) = 0
 ·rw [if_pos c2] at H
  have c2b0 : ((l0.length : Int) == 0) = true := beq_iff_eq.mpr c2; have c2b1 : ((l0.length : Int) != 0) = false := bne_eq_false_iff_eq.mpr c2; clear c2; obtain rfl := Option.some.inj H
  go_enter Tryd.func18, Tryd.ntmps18
  go_wp2
  go_ret
  exact ⟨by first | rfl | (simp [errW_none, errW_some] <;> rfl) | (simp [*, errW_none, errW_some] <;> rfl), bl_ HB.out⟩
 ·rw [if_neg c2] at H
  have c2b0 : ((l0.length : Int) == 0) = false := beq_eq_false_iff_ne.mpr c2; have c2b1 : ((l0.length : Int) != 0) = true := bne_iff_ne.mpr c2; have c2b2 : ¬ (l0 = []) := fun h_ => c2 (by rw [h_]; rfl)
  have H' := Aside0.mk H; clear H
  go_enter Tryd.func18, Tryd.ntmps18
  go_wp2
  go_loopg [3, 11] k (fun kq v3 v11 w' => ∃ (x3_1 : ByteArray) (x11_1 : Int), v3 = .string x3_1 ∧ v11 = .int .i64 x11_1 ∧ Aside0 (spec_poText.l0 kq x3_1 l0 (l0.length : Int) x11_1 = some r) ∧ Aside0 (kq ≤ k) ∧ Aside0 (Below w.heap.size w w'))
  case atStart => exact ⟨((⟨#[]⟩ : ByteArray)), (0), (fs_), (fs_), H', ⟨Nat.le_refl _⟩, ⟨bl_ HB.out⟩⟩
  case round =>
   clear H'
   try clear c1
   try clear c2
   try clear c2b0
   try clear c2b1
   try clear c2b2
   try clear p2
   obtain ⟨x3_1, x11_1, rfl, rfl, HA, HK1, HB⟩ := hrel
   cases gk with
   | zero => exact absurd HA.out (by simp [spec_poText.l0])
   | succ k1 =>
    have H := HA.out; clear HA
    simp only [spec_poText.l0] at H
    by_cases c3 : x11_1 < (l0.length : Int)
    ·rw [if_pos c3] at H
     have c3b0 : decide (x11_1 < (l0.length : Int)) = true := decide_eq_true c3; clear c3
     by_cases c4 : 0 ≤ x11_1
     ·rw [if_pos c4] at H
      have c4b0 : decide (0 ≤ x11_1) = true := decide_eq_true c4; clear c4
      by_cases c5 : x11_1 < (l0.length : Int)
      ·rw [if_pos c5] at H
       have c5b0 : decide (x11_1 < (l0.length : Int)) = true := decide_eq_true c5; clear c5
       by_cases c6 : x11_1 > 0
       ·rw [if_pos c6] at H
        have c6b0 : decide (0 < x11_1) = true := decide_eq_true c6; clear c6
        by_cases c7 : x3_1.size + 1 ≤ 9223372036854775807
        ·rw [if_pos c7] at H
         have c7b0 := eq_true c7; have c7b1 : decide (x3_1.size + 1 ≤ 9223372036854775807) = true := decide_eq_true c7
         try have c7b2 : (9223372036854775807 < x3_1.size + 1) = False := eq_false (Nat.not_lt.2 c7)
         replace H := Option.bind_eq_some_iff.mp H; obtain ⟨t114, A80, H⟩ := H; have A8 := Aside0.mk A80; clear A80
         by_cases c9 : t114.size + 1 ≤ 9223372036854775807
         ·rw [if_pos c9] at H
          have c9b0 := eq_true c9; have c9b1 : decide (t114.size + 1 ≤ 9223372036854775807) = true := decide_eq_true c9
          try have c9b2 : (9223372036854775807 < t114.size + 1) = False := eq_false (Nat.not_lt.2 c9)
          replace H := Option.bind_eq_some_iff.mp H; obtain ⟨t115, A100, H⟩ := H; have A10 := Aside0.mk A100; clear A100
          by_cases c11 : (t114 ++ (⟨#[45]⟩ : ByteArray)).size + t115.size ≤ 9223372036854775807
          ·rw [if_pos c11] at H
           have c11b0 := eq_true c11; have c11b1 : decide ((t114 ++ (⟨#[45]⟩ : ByteArray)).size + t115.size ≤ 9223372036854775807) = true := decide_eq_true c11
           try have c11b2 : (9223372036854775807 < (t114 ++ (⟨#[45]⟩ : ByteArray)).size + t115.size) = False := eq_false (Nat.not_lt.2 c11)
           try (have c11b2z_ := c11b2; simp only [ByteArray.size_append', ByteArray.size_mk', List.size_toArray, List.length_cons, List.length_nil, Nat.zero_add] at c11b2z_)
           by_cases c12 : (x3_1 ++ (⟨#[44]⟩ : ByteArray)).size + ((t114 ++ (⟨#[45]⟩ : ByteArray)) ++ t115).size ≤ 9223372036854775807
           ·rw [if_pos c12] at H
            have c12b0 := eq_true c12; have c12b1 : decide ((x3_1 ++ (⟨#[44]⟩ : ByteArray)).size + ((t114 ++ (⟨#[45]⟩ : ByteArray)) ++ t115).size ≤ 9223372036854775807) = true := decide_eq_true c12
            try have c12b2 : (9223372036854775807 < (x3_1 ++ (⟨#[44]⟩ : ByteArray)).size + ((t114 ++ (⟨#[45]⟩ : ByteArray)) ++ t115).size) = False := eq_false (Nat.not_lt.2 c12)
            try (have c12b2z_ := c12b2; simp only [ByteArray.size_append', ByteArray.size_mk', List.size_toArray, List.length_cons, List.length_nil, Nat.zero_add] at c12b2z_)
            have H' := Aside0.mk H; clear H; have p112 : 0 ≤ (x11_1 : Int) := of_decide_eq_true as_; have q112 : x11_1 < (l0.length : Int) := of_decide_eq_true as_; obtain ⟨ad112, e112, hx112_0, hx112_1⟩ := at_T37 HR0.out x11_1 p112 q112
            cases e112
            replace hx112_0 := (HB.out.cell (World.block_lt_of_cell? w _ hx112_0)).trans hx112_0; replace hx112_1 := (HB.out.cell (World.block_lt_of_cell? w _ hx112_1)).trans hx112_1; replace p112 := eq_true p112; replace q112 := eq_true q112
            try go_wp2_with (first | ((with_reducible refine gate_dst (N := 5) rfl ?_); refine be_ #[.int .i64 0, .int .i64 0] 37 ?_; intro gb113 hg w13 hbox hb; have BK113 := Aside0.mk (hbox); have GW113 := Aside0.mk ((by rw [hg]; exact (below_size (bl_ HB.out)) : w.heap.size ≤ gb113)); have GE113 := Aside0.mk ((by rw [hg]; exact (below_size (bl_ HB.out)) : w.heap.size ≤ gb113)); replace HB := Aside0.mk (below_step (bl_ HB.out) hb); clear hb hbox hg; have hcz14_0 := cz_ BK113.out 0 (.int .i64 0); have hcz14_1 := cz_ BK113.out 1 (.int .i64 0); have hfz14_0 := blk_frozen BK113.out 0; have hfz14_1 := blk_frozen BK113.out 1))
            have n0_ : Aside0 (((w13.setCell ⟨gb113, 0, none⟩ (.int .i64 ((rd_T37 l0 x11_1).f0))).setCell ⟨gb113, 1, none⟩ (.int .i64 ((rd_T37 l0 x11_1).f1))).heap[gb113]? = some (.cells #[.int .i64 ((rd_T37 l0 x11_1).f0), .int .i64 ((rd_T37 l0 x11_1).f1)] 37 (0, 0))) := ⟨by (with_reducible repeat (first | refine blk_drewN ?_ _ | refine blk_drew ?_ | refine blk_alloc ?_ _)); refine blk_put (cs := #[.int .i64 ((rd_T37 l0 x11_1).f0), .int .i64 0]) ?_ 1 _ rfl; (with_reducible repeat (first | refine blk_drewN ?_ _ | refine blk_drew ?_ | refine blk_alloc ?_ _)); refine blk_put (cs := #[.int .i64 0, .int .i64 0]) ?_ 0 _ rfl; (with_reducible repeat (first | refine blk_drewN ?_ _ | refine blk_drew ?_ | refine blk_alloc ?_ _)); exact BK113.out⟩
            have n1_ : Aside0 (Below w.heap.size w ((w13.setCell ⟨gb113, 0, none⟩ (.int .i64 ((rd_T37 l0 x11_1).f0))).setCell ⟨gb113, 1, none⟩ (.int .i64 ((rd_T37 l0 x11_1).f1)))) := ⟨bs_ HB.out GE113.out⟩
            (try clear BK113)
            (try clear HB)
            generalize ((w13.setCell ⟨gb113, 0, none⟩ (.int .i64 ((rd_T37 l0 x11_1).f0))).setCell ⟨gb113, 1, none⟩ (.int .i64 ((rd_T37 l0 x11_1).f1))) = w15 at n0_ n1_ ⊢
            have BK113 := n0_; have HB := n1_; clear n0_ n1_; replace BK113 := Aside0.mk (blk_drew BK113.out); replace HB := Aside0.mk (below_drew1 HB.out); refine start_ (n := 11) (S := fun w' => w'.cell? ⟨gb113, 0, none⟩ = some (.int .i64 ((rd_T37 l0 x11_1).f0)) ∧ w'.cell? ⟨gb113, 1, none⟩ = some (.int .i64 ((rd_T37 l0 x11_1).f1))) (ds := []) #[false, false, false, false, false, false, false, false, false, false, false] (by kernel_rfl) rfl rfl ⟨(blk_cell BK113.out 0).trans rfl, (blk_cell BK113.out 1).trans rfl⟩ (fun hHeld => ?_); refine with_tabW spec_poText.tab9 spec_poText.bits9 (fun HT_ HW_ => ?_)
            generalize w15.drew = w16 at BK113 HB hHeld ⊢
            refine pa_ 0 (some 20) rfl rfl HT_ ?_; refine pa_ 1 (some 21) rfl rfl HT_ ?_; refine pa_ 5 (some 25) rfl rfl HT_ ?_; refine ta0_ 2 (some 22) rfl rfl HT_ HW_ hHeld ?_; refine ta0_ 6 (some 26) rfl rfl HT_ HW_ hHeld ?_; refine one_ (i := 3) (N := some 23) #[true, true, true, true, false, true, true, false, false, false, false] rfl rfl (one_of HT_.out (by kernel_rfl)) (by decide) (fun K hK => ?_)
            refine goes_ Tryd.func28 (by kernel_rfl) rfl #[.int .i64 ((rd_T37 l0 x11_1).f0)] (by rfl) rfl rfl (by (try simp only [List.map_toArray, List.map_cons, List.map_nil]); first | done | rfl | (simp only [List.length_drop, List.length_take]; rfl)) ?_
            with_reducible refine (spec_l1Num.calls k1 ((rd_T37 l0 x11_1).f0) t114 _ A8.out).mono ?_
            rintro e w17 ⟨rfl, hb⟩
            refine ⟨_, rfl, ?_⟩; replace BK113 := Aside0.mk (blk_below (g := gb113) (o := .cells #[.int .i64 ((rd_T37 l0 x11_1).f0), .int .i64 ((rd_T37 l0 x11_1).f1)] 37 (0, 0)) (bk_ BK113.out) hb); replace HB := Aside0.mk (below_step (bs_ HB.out GE113.out) hb)
            (try clear hb)
            (try clear hb2)
            (try clear hk)
            (try clear hi)
            refine hK.out _ _ ⟨(blk_cell BK113.out 0).trans rfl, (blk_cell BK113.out 1).trans rfl⟩ (fun hHeld => ?_)
            clear hK K; refine na_ (some 23) ?_; refine pa_ 4 (some 24) rfl rfl HT_ ?_; refine one_ (i := 7) (N := some 27) #[true, true, true, true, true, true, true, true, false, false, false] rfl rfl (one_of HT_.out (by kernel_rfl)) (by decide) (fun K hK => ?_)
            refine goes_ Tryd.func28 (by kernel_rfl) rfl #[.int .i64 ((rd_T37 l0 x11_1).f1)] (by rfl) rfl rfl (by (try simp only [List.map_toArray, List.map_cons, List.map_nil]); first | done | rfl | (simp only [List.length_drop, List.length_take]; rfl)) ?_
            with_reducible refine (spec_l1Num.calls k1 ((rd_T37 l0 x11_1).f1) t115 _ A10.out).mono ?_
            rintro e w18 ⟨rfl, hb⟩
            refine ⟨_, rfl, ?_⟩; replace BK113 := Aside0.mk (blk_below (g := gb113) (o := .cells #[.int .i64 ((rd_T37 l0 x11_1).f0), .int .i64 ((rd_T37 l0 x11_1).f1)] 37 (0, 0)) (bk_ BK113.out) hb); replace HB := Aside0.mk (below_step (bs_ HB.out GE113.out) hb)
            (try clear hb)
            (try clear hb2)
            (try clear hk)
            (try clear hi)
            refine hK.out _ _ ⟨(blk_cell BK113.out 0).trans rfl, (blk_cell BK113.out 1).trans rfl⟩ (fun hHeld => ?_)
            clear hK K; refine na_ (some 27) ?_; refine pa_ 8 (some 28) rfl rfl HT_ ?_; refine pa_ 9 (some 29) rfl rfl HT_ ?_; refine pa_ 10 (some 3) rfl rfl HT_ ?_; refine done_ (done_of HT_.out (by kernel_rfl)) ?_
            try go_wp2
            go_roundg k1
            case measure => have := HK1.out; omega
            case rel => exact ⟨((x3_1 ++ (⟨#[44]⟩ : ByteArray)) ++ ((t114 ++ (⟨#[45]⟩ : ByteArray)) ++ t115)), (wrap64 (x11_1 + 1)), (fs_), (fs_), H', ⟨by have := HK1.out; omega⟩, ⟨bs_ HB.out GE113.out⟩⟩
           ·rw [if_neg c12] at H
            exact absurd H (by simp)
          ·rw [if_neg c11] at H
           exact absurd H (by simp)
         ·rw [if_neg c9] at H
          exact absurd H (by simp)
        ·rw [if_neg c7] at H
         exact absurd H (by simp)
       ·rw [if_neg c6] at H
        have c6b0 : decide (0 < x11_1) = false := decide_eq_false c6; clear c6; replace H := Option.bind_eq_some_iff.mp H; obtain ⟨t116, A190, H⟩ := H; have A19 := Aside0.mk A190; clear A190
        by_cases c20 : t116.size + 1 ≤ 9223372036854775807
        ·rw [if_pos c20] at H
         have c20b0 := eq_true c20; have c20b1 : decide (t116.size + 1 ≤ 9223372036854775807) = true := decide_eq_true c20
         try have c20b2 : (9223372036854775807 < t116.size + 1) = False := eq_false (Nat.not_lt.2 c20)
         replace H := Option.bind_eq_some_iff.mp H; obtain ⟨t117, A210, H⟩ := H; have A21 := Aside0.mk A210; clear A210
         by_cases c22 : (t116 ++ (⟨#[45]⟩ : ByteArray)).size + t117.size ≤ 9223372036854775807
         ·rw [if_pos c22] at H
          have c22b0 := eq_true c22; have c22b1 : decide ((t116 ++ (⟨#[45]⟩ : ByteArray)).size + t117.size ≤ 9223372036854775807) = true := decide_eq_true c22
          try have c22b2 : (9223372036854775807 < (t116 ++ (⟨#[45]⟩ : ByteArray)).size + t117.size) = False := eq_false (Nat.not_lt.2 c22)
          try (have c22b2z_ := c22b2; simp only [ByteArray.size_append', ByteArray.size_mk', List.size_toArray, List.length_cons, List.length_nil, Nat.zero_add] at c22b2z_)
          by_cases c23 : x3_1.size + ((t116 ++ (⟨#[45]⟩ : ByteArray)) ++ t117).size ≤ 9223372036854775807
          ·rw [if_pos c23] at H
           have c23b0 := eq_true c23; have c23b1 : decide (x3_1.size + ((t116 ++ (⟨#[45]⟩ : ByteArray)) ++ t117).size ≤ 9223372036854775807) = true := decide_eq_true c23
           try have c23b2 : (9223372036854775807 < x3_1.size + ((t116 ++ (⟨#[45]⟩ : ByteArray)) ++ t117).size) = False := eq_false (Nat.not_lt.2 c23)
           try (have c23b2z_ := c23b2; simp only [ByteArray.size_append', ByteArray.size_mk', List.size_toArray, List.length_cons, List.length_nil, Nat.zero_add] at c23b2z_)
           have H' := Aside0.mk H; clear H; have p112 : 0 ≤ (x11_1 : Int) := of_decide_eq_true as_; have q112 : x11_1 < (l0.length : Int) := of_decide_eq_true as_; obtain ⟨ad112, e112, hx112_0, hx112_1⟩ := at_T37 HR0.out x11_1 p112 q112
           cases e112
           replace hx112_0 := (HB.out.cell (World.block_lt_of_cell? w _ hx112_0)).trans hx112_0; replace hx112_1 := (HB.out.cell (World.block_lt_of_cell? w _ hx112_1)).trans hx112_1; replace p112 := eq_true p112; replace q112 := eq_true q112
           try go_wp2_with (first | ((with_reducible refine gate_dst (N := 5) rfl ?_); refine be_ #[.int .i64 0, .int .i64 0] 37 ?_; intro gb113 hg w24 hbox hb; have BK113 := Aside0.mk (hbox); have GW113 := Aside0.mk ((by rw [hg]; exact (below_size (bl_ HB.out)) : w.heap.size ≤ gb113)); have GE113 := Aside0.mk ((by rw [hg]; exact (below_size (bl_ HB.out)) : w.heap.size ≤ gb113)); replace HB := Aside0.mk (below_step (bl_ HB.out) hb); clear hb hbox hg; have hcz25_0 := cz_ BK113.out 0 (.int .i64 0); have hcz25_1 := cz_ BK113.out 1 (.int .i64 0); have hfz25_0 := blk_frozen BK113.out 0; have hfz25_1 := blk_frozen BK113.out 1))
           have n0_ : Aside0 (((w24.setCell ⟨gb113, 0, none⟩ (.int .i64 ((rd_T37 l0 x11_1).f0))).setCell ⟨gb113, 1, none⟩ (.int .i64 ((rd_T37 l0 x11_1).f1))).heap[gb113]? = some (.cells #[.int .i64 ((rd_T37 l0 x11_1).f0), .int .i64 ((rd_T37 l0 x11_1).f1)] 37 (0, 0))) := ⟨by (with_reducible repeat (first | refine blk_drewN ?_ _ | refine blk_drew ?_ | refine blk_alloc ?_ _)); refine blk_put (cs := #[.int .i64 ((rd_T37 l0 x11_1).f0), .int .i64 0]) ?_ 1 _ rfl; (with_reducible repeat (first | refine blk_drewN ?_ _ | refine blk_drew ?_ | refine blk_alloc ?_ _)); refine blk_put (cs := #[.int .i64 0, .int .i64 0]) ?_ 0 _ rfl; (with_reducible repeat (first | refine blk_drewN ?_ _ | refine blk_drew ?_ | refine blk_alloc ?_ _)); exact BK113.out⟩
           have n1_ : Aside0 (Below w.heap.size w ((w24.setCell ⟨gb113, 0, none⟩ (.int .i64 ((rd_T37 l0 x11_1).f0))).setCell ⟨gb113, 1, none⟩ (.int .i64 ((rd_T37 l0 x11_1).f1)))) := ⟨bs_ HB.out GE113.out⟩
           (try clear BK113)
           (try clear HB)
           generalize ((w24.setCell ⟨gb113, 0, none⟩ (.int .i64 ((rd_T37 l0 x11_1).f0))).setCell ⟨gb113, 1, none⟩ (.int .i64 ((rd_T37 l0 x11_1).f1))) = w26 at n0_ n1_ ⊢
           have BK113 := n0_; have HB := n1_; clear n0_ n1_; replace BK113 := Aside0.mk (blk_drew BK113.out); replace HB := Aside0.mk (below_drew1 HB.out); refine start_ (n := 11) (S := fun w' => w'.cell? ⟨gb113, 0, none⟩ = some (.int .i64 ((rd_T37 l0 x11_1).f0)) ∧ w'.cell? ⟨gb113, 1, none⟩ = some (.int .i64 ((rd_T37 l0 x11_1).f1))) (ds := []) #[false, false, false, false, false, false, false, false, false, false, false] (by kernel_rfl) rfl rfl ⟨(blk_cell BK113.out 0).trans rfl, (blk_cell BK113.out 1).trans rfl⟩ (fun hHeld => ?_); refine with_tabW spec_poText.tab9 spec_poText.bits9 (fun HT_ HW_ => ?_)
           generalize w26.drew = w27 at BK113 HB hHeld ⊢
           refine pa_ 0 (some 20) rfl rfl HT_ ?_; refine pa_ 1 (some 21) rfl rfl HT_ ?_; refine pa_ 5 (some 25) rfl rfl HT_ ?_; refine ta0_ 2 (some 22) rfl rfl HT_ HW_ hHeld ?_; refine ta0_ 6 (some 26) rfl rfl HT_ HW_ hHeld ?_; refine one_ (i := 3) (N := some 23) #[true, true, true, true, false, true, true, false, false, false, false] rfl rfl (one_of HT_.out (by kernel_rfl)) (by decide) (fun K hK => ?_)
           refine goes_ Tryd.func28 (by kernel_rfl) rfl #[.int .i64 ((rd_T37 l0 x11_1).f0)] (by rfl) rfl rfl (by (try simp only [List.map_toArray, List.map_cons, List.map_nil]); first | done | rfl | (simp only [List.length_drop, List.length_take]; rfl)) ?_
           with_reducible refine (spec_l1Num.calls k1 ((rd_T37 l0 x11_1).f0) t116 _ A19.out).mono ?_
           rintro e w28 ⟨rfl, hb⟩
           refine ⟨_, rfl, ?_⟩; replace BK113 := Aside0.mk (blk_below (g := gb113) (o := .cells #[.int .i64 ((rd_T37 l0 x11_1).f0), .int .i64 ((rd_T37 l0 x11_1).f1)] 37 (0, 0)) (bk_ BK113.out) hb); replace HB := Aside0.mk (below_step (bs_ HB.out GE113.out) hb)
           (try clear hb)
           (try clear hb2)
           (try clear hk)
           (try clear hi)
           refine hK.out _ _ ⟨(blk_cell BK113.out 0).trans rfl, (blk_cell BK113.out 1).trans rfl⟩ (fun hHeld => ?_)
           clear hK K; refine na_ (some 23) ?_; refine pa_ 4 (some 24) rfl rfl HT_ ?_; refine one_ (i := 7) (N := some 27) #[true, true, true, true, true, true, true, true, false, false, false] rfl rfl (one_of HT_.out (by kernel_rfl)) (by decide) (fun K hK => ?_)
           refine goes_ Tryd.func28 (by kernel_rfl) rfl #[.int .i64 ((rd_T37 l0 x11_1).f1)] (by rfl) rfl rfl (by (try simp only [List.map_toArray, List.map_cons, List.map_nil]); first | done | rfl | (simp only [List.length_drop, List.length_take]; rfl)) ?_
           with_reducible refine (spec_l1Num.calls k1 ((rd_T37 l0 x11_1).f1) t117 _ A21.out).mono ?_
           rintro e w29 ⟨rfl, hb⟩
           refine ⟨_, rfl, ?_⟩; replace BK113 := Aside0.mk (blk_below (g := gb113) (o := .cells #[.int .i64 ((rd_T37 l0 x11_1).f0), .int .i64 ((rd_T37 l0 x11_1).f1)] 37 (0, 0)) (bk_ BK113.out) hb); replace HB := Aside0.mk (below_step (bs_ HB.out GE113.out) hb)
           (try clear hb)
           (try clear hb2)
           (try clear hk)
           (try clear hi)
           refine hK.out _ _ ⟨(blk_cell BK113.out 0).trans rfl, (blk_cell BK113.out 1).trans rfl⟩ (fun hHeld => ?_)
           clear hK K; refine na_ (some 27) ?_; refine pa_ 8 (some 28) rfl rfl HT_ ?_; refine pa_ 9 (some 29) rfl rfl HT_ ?_; refine pa_ 10 (some 3) rfl rfl HT_ ?_; refine done_ (done_of HT_.out (by kernel_rfl)) ?_
           try go_wp2
           go_roundg k1
           case measure => have := HK1.out; omega
           case rel => exact ⟨(x3_1 ++ ((t116 ++ (⟨#[45]⟩ : ByteArray)) ++ t117)), (wrap64 (x11_1 + 1)), (fs_), (fs_), H', ⟨by have := HK1.out; omega⟩, ⟨bs_ HB.out GE113.out⟩⟩
          ·rw [if_neg c23] at H
           exact absurd H (by simp)
         ·rw [if_neg c22] at H
          exact absurd H (by simp)
        ·rw [if_neg c20] at H
         exact absurd H (by simp)
      ·rw [if_neg c5] at H
       exact absurd H (by simp)
     ·rw [if_neg c4] at H
      exact absurd H (by simp)
    ·rw [if_neg c3] at H
     have c3b0 : decide (x11_1 < (l0.length : Int)) = false := decide_eq_false c3; clear c3; obtain rfl := Option.some.inj H
     go_wp2
     go_ret
     exact ⟨by first | rfl | (simp [errW_none, errW_some] <;> rfl) | (simp [*, errW_none, errW_some] <;> rfl), bl_ HB.out⟩
mutual
def spec_poParse.l0 : Nat → ByteArray → List (S37) → Int → Int → Int → Option ((List (S37)) × Bool)
 | 0, _, _, _, _, _ => none
 | k + 1, x0, x4, x5, x6, x7 => if x7 ≤ (x0.size : Int) then (if x7 = (x0.size : Int) then (spec_poParse.j1 k x0 x4 x5 x6 x7 true) else (if 0 ≤ x7 then (if x7 < (x0.size : Int) then (spec_poParse.j1 k x0 x4 x5 x6 x7 ((bt x0 x7) == 44)) else (none)) else (none))) else ((spec_poListed.f k x4).bind fun t118 => (if t118 = true then ((spec_poText.f k x4).bind fun t119 => (some (x4, (t119.toList == x0.toList)))) else (some (x4, false))))
def spec_poParse.j1 : Nat → ByteArray → List (S37) → Int → Int → Int → Bool → Option ((List (S37)) × Bool)
 | 0, _, _, _, _, _, _ => none
 | k + 1, x0, x4, x5, x6, x7, x19 => if x19 = true then (if x4.length < 8796093022208 then (spec_poParse.l0 k x0 (x4 ++ [(⟨x6, x5⟩ : S37)]) 0 0 (wrap64 (x7 + 1))) else (none)) else (if 0 ≤ x7 then (if x7 < (x0.size : Int) then (if (bt x0 x7) = 45 then (spec_poParse.l0 k x0 x4 0 x5 (wrap64 (x7 + 1))) else (if (bt x0 x7) ≥ 48 then (if (bt x0 x7) ≤ 57 then ((spec_l1Least.f 100 (wrap64 ((wrap64 (10 * x5)) + (((bt x0 x7) - 48) % 256)))).bind fun t123 => (spec_poParse.l0 k x0 x4 t123 x6 (wrap64 (x7 + 1)))) else (spec_poParse.l0 k x0 x4 x5 x6 (wrap64 (x7 + 1)))) else (spec_poParse.l0 k x0 x4 x5 x6 (wrap64 (x7 + 1))))) else (none)) else (none))
end
def spec_poParse.f (k : Nat) (a0 : ByteArray) : Option ((List (S37)) × Bool) := if a0.toList = ([46] : List UInt8) then (some (([] : List (S37)), true)) else (if (a0.size : Int) > 72 then (some (([] : List (S37)), false)) else (spec_poParse.l0 k a0 ([] : List (S37)) 0 0 0))
set_option maxHeartbeats 8000000 in
set_option maxRecDepth 100000 in
theorem spec_poParse.calls (k : Nat) (a0 : ByteArray) (r1 : List (S37)) (r2 : Bool) (w : World) (h : spec_poParse.f k a0 = some (r1, r2)) :
  Calls Tryd.prog 9 #[.string a0] w fun e w' => ∃ v0_ : Value, e = .returned (.tuple #[v0_, .bool r2]) ∧ Kd.R k37 37 w' w.heap.size (fun _ => True) v0_ r1 ∧ Below w.heap.size w w' := by
 have hu37 := Tryd.underlying37; have HB := Aside0.mk (Below.refl w.heap.size w); have H : (if a0.toList = ([46] : List UInt8) then (some (([] : List (S37)), true)) else (if (a0.size : Int) > 72 then (some (([] : List (S37)), false)) else (spec_poParse.l0 k a0 ([] : List (S37)) 0 0 0))) = some (r1, r2) := h
 clear h
 by_cases c2 : a0.toList = ([46] : List UInt8)
 ·rw [if_pos c2] at H
  have c2b0 : (a0.toList == ([46] : List UInt8)) = true := beq_iff_eq.mpr c2; have c2b1 : (a0.toList != ([46] : List UInt8)) = false := bne_eq_false_iff_eq.mpr c2; clear c2
  simp only [Option.some.injEq, Prod.mk.injEq] at H
  obtain ⟨rfl, rfl⟩ := H
  go_enter Tryd.func9, Tryd.ntmps9
  go_wp2
  go_ret2
  exact ⟨_, by first | rfl | (simp [errW_none, errW_some] <;> rfl) | (simp [*, errW_none, errW_some] <;> rfl), by first | exact Kd.R_nil _ _ _ _ _ | exact Kd.N_nil _ _ _ _ _ | exact Kd.V_nil _ _ _ _ _ | exact Kd.Q_nil _ _ _ _ _ | exact Kd.S_nil _ _ _ _ _, bl_ HB.out⟩
 ·rw [if_neg c2] at H
  have c2b0 : (a0.toList == ([46] : List UInt8)) = false := beq_eq_false_iff_ne.mpr c2; have c2b1 : (a0.toList != ([46] : List UInt8)) = true := bne_iff_ne.mpr c2
  by_cases c3 : (a0.size : Int) > 72
  ·rw [if_pos c3] at H
   have c3b0 : decide (72 < (a0.size : Int)) = true := decide_eq_true c3; have c3b1 : decide (72 < a0.size) = true := decide_eq_true (by omega)
   clear c3
   simp only [Option.some.injEq, Prod.mk.injEq] at H
   obtain ⟨rfl, rfl⟩ := H
   go_enter Tryd.func9, Tryd.ntmps9
   go_wp2
   go_ret2
   exact ⟨_, by first | rfl | (simp [errW_none, errW_some] <;> rfl) | (simp [*, errW_none, errW_some] <;> rfl), by first | exact Kd.R_nil _ _ _ _ _ | exact Kd.N_nil _ _ _ _ _ | exact Kd.V_nil _ _ _ _ _ | exact Kd.Q_nil _ _ _ _ _ | exact Kd.S_nil _ _ _ _ _, bl_ HB.out⟩
  ·rw [if_neg c3] at H
   have c3b0 : decide (72 < (a0.size : Int)) = false := decide_eq_false c3; have c3b1 : decide (72 < a0.size) = false := decide_eq_false (by omega)
   clear c3; have H' := Aside0.mk H; clear H
   go_enter Tryd.func9, Tryd.ntmps9
   go_wp2
   go_loopg [4, 5, 6, 7] k (fun kq v4 v5 v6 v7 w' => ∃ (x4_1 : List (S37)) (x5_1 : Int) (x6_1 : Int) (x7_1 : Int), v5 = .int .i64 x5_1 ∧ v6 = .int .i64 x6_1 ∧ v7 = .int .i64 x7_1 ∧ Aside0 (spec_poParse.l0 kq a0 x4_1 x5_1 x6_1 x7_1 = some (r1, r2)) ∧ Aside0 (kq ≤ k) ∧ Aside0 (Kd.R k37 37 w' w.heap.size (fun _ => True) v4 x4_1) ∧ Aside0 (Below w.heap.size w w'))
   case atStart => exact ⟨(([] : List (S37))), (0), (0), (0), (fs_), (fs_), (fs_), H', ⟨Nat.le_refl _⟩, ⟨by first | exact Kd.R_nil _ _ _ _ _ | exact Kd.N_nil _ _ _ _ _ | exact Kd.V_nil _ _ _ _ _ | exact Kd.Q_nil _ _ _ _ _ | exact Kd.S_nil _ _ _ _ _⟩, ⟨bl_ HB.out⟩⟩
   case round =>
    clear H'
    try clear c2
    try clear c2b0
    try clear c2b1
    try clear p2
    try clear c3
    try clear c3b0
    try clear c3b1
    obtain ⟨x4_1, x5_1, x6_1, x7_1, rfl, rfl, rfl, HA, HK1, HO_4, HB⟩ := hrel
    cases gk with
    | zero => exact absurd HA.out (by simp [spec_poParse.l0])
    | succ k1 =>
     have H := HA.out; clear HA
     simp only [spec_poParse.l0] at H
     by_cases c4 : x7_1 ≤ (a0.size : Int)
     ·rw [if_pos c4] at H
      have c4b0 : decide (x7_1 ≤ (a0.size : Int)) = true := decide_eq_true c4; clear c4; have HC5 := Aside0.mk H; clear H
      go_upto_region 10 with (fail)
      go_cut [19] (fun v19 wc => ∃ (kq : Nat) (x19_4 : Bool), v19 = .bool x19_4 ∧ Aside0 (spec_poParse.j1 kq a0 x4_1 x5_1 x6_1 x7_1 x19_4 = some (r1, r2)) ∧ Aside0 (kq ≤ k1) ∧ Aside0 (Kd.R k37 37 wc w.heap.size (fun _ => True) u4 x4_1) ∧ Aside0 (Below w.heap.size w wc))
      case first =>
       have H := HC5.out; clear HC5
       by_cases c6 : x7_1 = (a0.size : Int)
       ·rw [if_pos c6] at H
        have c6b0 : (x7_1 == (a0.size : Int)) = true := beq_iff_eq.mpr c6; have c6b1 : (x7_1 != (a0.size : Int)) = false := bne_eq_false_iff_eq.mpr c6; clear c6
        (first | rw [c6b0] | (simp only [i64_w, i32_w]; rw [c6b0]) | skip)
        have H' := Aside0.mk H; clear H
        go_wp2
        go_meet
        case rel => exact ⟨_, (true), (fs_), H', ⟨by have := HK1.out; first | omega | exact Nat.le_refl _⟩, ⟨kr_ HO_4.out⟩, ⟨bl_ HB.out⟩⟩
       ·rw [if_neg c6] at H
        have c6b0 : (x7_1 == (a0.size : Int)) = false := beq_eq_false_iff_ne.mpr c6; have c6b1 : (x7_1 != (a0.size : Int)) = true := bne_iff_ne.mpr c6
        (first | rw [c6b0] | (simp only [i64_w, i32_w]; rw [c6b0]) | skip)
        by_cases c7 : 0 ≤ x7_1
        ·rw [if_pos c7] at H
         have c7b0 : decide (0 ≤ x7_1) = true := decide_eq_true c7; clear c7
         by_cases c8 : x7_1 < (a0.size : Int)
         ·rw [if_pos c8] at H
          have c8b0 : decide (x7_1 < (a0.size : Int)) = true := decide_eq_true c8; clear c8; have H' := Aside0.mk H; clear H; have p9 : 0 ≤ (x7_1 : Int) := of_decide_eq_true as_; have q9 : x7_1 < (a0.size : Int) := of_decide_eq_true as_; have hx9 := bt_at a0 x7_1; replace p9 := eq_true p9; replace q9 := eq_true q9
          go_wp2
          go_meet
          case rel => exact ⟨_, (((bt a0 x7_1) == 44)), (fs_), H', ⟨by have := HK1.out; first | omega | exact Nat.le_refl _⟩, ⟨kr_ HO_4.out⟩, ⟨bl_ HB.out⟩⟩
         ·rw [if_neg c8] at H
          exact absurd H (by simp)
        ·rw [if_neg c7] at H
         exact absurd H (by simp)
      case rest =>
       clear HC5
       try clear c2
       try clear c2b0
       try clear c2b1
       try clear p2
       try clear c3
       try clear c3b0
       try clear c3b1
       try clear c4
       try clear c4b0
       try clear c6
       try clear c6b0
       try clear c6b1
       try clear c7
       try clear c7b0
       try clear c8
       try clear c8b0
       try clear c9
       try clear p9
       try clear q9
       try clear hx9
       try clear p2
       try clear p9
       try clear q9
       obtain ⟨kq, x19_4, rfl, HA, HJ4, HO_4, HB⟩ := hcut
       cases kq with
       | zero => exact absurd HA.out (by simp [spec_poParse.j1])
       | succ kj4 =>
        have H := HA.out; clear HA
        simp only [spec_poParse.j1] at H
        by_cases c10 : x19_4 = true
        ·subst c10
         rw [if_pos rfl] at H
         by_cases c11 : x4_1.length < 8796093022208
         ·rw [if_pos c11] at H
          have LMc11 := Aside0.mk c11; clear c11; obtain ⟨y120, hy120⟩ : ∃ y_ : List (S37), y_ = (x4_1 ++ [(⟨x6_1, x5_1⟩ : S37)]) := ⟨_, rfl⟩; replace H : (spec_poParse.l0 kj4 a0 y120 0 0 (wrap64 (x7_1 + 1))) = some (r1, r2) := rh_ hy120 H; have Ny120 := Aside0.mk hy120; clear hy120; have H' := Aside0.mk H; clear H
          go_wp2_with (first | ((with_reducible refine gate_builtin (b := .append) (xs := #[.tmp 30, .tmp 34]) rfl ?_); at_builtin; refine Kd.R_append k37 (w0 := w) w.heap.size rfl (.tmp 30) (.tmp 34) 22 37 (.agg #[(.int .i64 0), (.int .i64 0)]) 16 rfl Tryd.underlying22 info37 rfl (by decide) (by omega) u4 x4_1 (⟨x6_1, x5_1⟩ : S37) [.int .i64 x6_1, .int .i64 x5_1] (fun _ => True) (fun _ => False) rfl rfl ?aP (fun _ hk => hk.elim) ?aF ?aO ?aB ?aS ?aL ?_; (case aP => exact k37_mkM _ _ _ (⟨x6_1, x5_1⟩ : S37)); (case aB => exact (bl_ HB.out)); (case aF => exact (fun _ _ => trivial)); (case aO => exact (kr_ HO_4.out)); (case aS => exact (below_size (bl_ HB.out))); (case aL => have := LMc11.out; omega); intro v121 w12 ho hb hg hat; rw [← Ny120.out] at ho; replace HB := Aside0.mk (hb); have HO122 := Aside0.mk (ho); clear HO_4 ho hb hg hat))
          go_roundg kj4
          case measure => have := HK1.out; have := HJ4.out; omega
          case rel => exact ⟨(y120), (0), (0), (wrap64 (x7_1 + 1)), (fs_), (fs_), (fs_), H', ⟨by have := HK1.out; have := HJ4.out; omega⟩, ⟨kr_ HO122.out⟩, ⟨bl_ HB.out⟩⟩
         ·rw [if_neg c11] at H
          exact absurd H (by simp)
        ·replace c10 := Bool.eq_false_iff.mpr c10
         subst c10; rw [if_neg (show ¬ (false = true) by decide)] at H
         by_cases c13 : 0 ≤ x7_1
         ·rw [if_pos c13] at H
          have c13b0 : decide (0 ≤ x7_1) = true := decide_eq_true c13; clear c13
          by_cases c14 : x7_1 < (a0.size : Int)
          ·rw [if_pos c14] at H
           have c14b0 : decide (x7_1 < (a0.size : Int)) = true := decide_eq_true c14; clear c14
           by_cases c16 : (bt a0 x7_1) = 45
           ·rw [if_pos c16] at H
            have c16b0 : ((bt a0 x7_1) == 45) = true := beq_iff_eq.mpr c16; have c16b1 : ((bt a0 x7_1) != 45) = false := bne_eq_false_iff_eq.mpr c16; clear c16; have H' := Aside0.mk H; clear H; have p15 : 0 ≤ (x7_1 : Int) := of_decide_eq_true as_; have q15 : x7_1 < (a0.size : Int) := of_decide_eq_true as_; have hx15 := bt_at a0 x7_1; replace p15 := eq_true p15; replace q15 := eq_true q15
            go_wp2
            go_roundg kj4
            case measure => have := HK1.out; have := HJ4.out; omega
            case rel => exact ⟨(x4_1), (0), (x5_1), (wrap64 (x7_1 + 1)), (fs_), (fs_), (fs_), H', ⟨by have := HK1.out; have := HJ4.out; omega⟩, ⟨kr_ HO_4.out⟩, ⟨bl_ HB.out⟩⟩
           ·rw [if_neg c16] at H
            have c16b0 : ((bt a0 x7_1) == 45) = false := beq_eq_false_iff_ne.mpr c16; have c16b1 : ((bt a0 x7_1) != 45) = true := bne_iff_ne.mpr c16
            by_cases c18 : (bt a0 x7_1) ≥ 48
            ·rw [if_pos c18] at H
             have c18b0 : decide (48 ≤ (bt a0 x7_1)) = true := decide_eq_true c18; clear c18
             by_cases c20 : (bt a0 x7_1) ≤ 57
             ·rw [if_pos c20] at H
              have c20b0 : decide ((bt a0 x7_1) ≤ 57) = true := decide_eq_true c20; clear c20; replace H := Option.bind_eq_some_iff.mp H; obtain ⟨t123, A220, H⟩ := H; have A22 := Aside0.mk A220; clear A220; have H' := Aside0.mk H; clear H; have p15 : 0 ≤ (x7_1 : Int) := of_decide_eq_true as_; have q15 : x7_1 < (a0.size : Int) := of_decide_eq_true as_; have hx15 := bt_at a0 x7_1; replace p15 := eq_true p15; replace q15 := eq_true q15; have p17 : 0 ≤ (x7_1 : Int) := of_decide_eq_true as_; have q17 : x7_1 < (a0.size : Int) := of_decide_eq_true as_; have hx17 := bt_at a0 x7_1; replace p17 := eq_true p17; replace q17 := eq_true q17; have p19 : 0 ≤ (x7_1 : Int) := of_decide_eq_true as_; have q19 : x7_1 < (a0.size : Int) := of_decide_eq_true as_; have hx19 := bt_at a0 x7_1; replace p19 := eq_true p19; replace q19 := eq_true q19; have p21 : 0 ≤ (x7_1 : Int) := of_decide_eq_true as_; have q21 : x7_1 < (a0.size : Int) := of_decide_eq_true as_; have hx21 := bt_at a0 x7_1; replace p21 := eq_true p21; replace q21 := eq_true q21
              go_wp2_with (first | ((with_reducible refine gate_callee (f := 16) rfl ?_); refine gl_ (some 61) Tryd.func16 #[.int .i64 100, .int .i64 (wrap64 ((wrap64 (10 * x5_1)) + (((bt a0 x7_1) - 48) % 256)))] rfl ?_; (with_reducible refine (spec_l1Least.calls 100 (wrap64 ((wrap64 (10 * x5_1)) + (((bt a0 x7_1) - 48) % 256))) t123 _ A22.out).mono ?_); rintro e w' ⟨rfl, ⟨nd, rfl⟩⟩; refine ⟨_, rfl, ?_⟩))
              go_roundg kj4
              case measure => have := HK1.out; have := HJ4.out; omega
              case rel => exact ⟨(x4_1), (t123), (x6_1), (wrap64 (x7_1 + 1)), (fs_), (fs_), (fs_), H', ⟨by have := HK1.out; have := HJ4.out; omega⟩, ⟨kr_ HO_4.out⟩, ⟨bl_ HB.out⟩⟩
             ·rw [if_neg c20] at H
              have c20b0 : decide ((bt a0 x7_1) ≤ 57) = false := decide_eq_false c20; clear c20; have H' := Aside0.mk H; clear H; have p15 : 0 ≤ (x7_1 : Int) := of_decide_eq_true as_; have q15 : x7_1 < (a0.size : Int) := of_decide_eq_true as_; have hx15 := bt_at a0 x7_1; replace p15 := eq_true p15; replace q15 := eq_true q15; have p17 : 0 ≤ (x7_1 : Int) := of_decide_eq_true as_; have q17 : x7_1 < (a0.size : Int) := of_decide_eq_true as_; have hx17 := bt_at a0 x7_1; replace p17 := eq_true p17; replace q17 := eq_true q17; have p19 : 0 ≤ (x7_1 : Int) := of_decide_eq_true as_; have q19 : x7_1 < (a0.size : Int) := of_decide_eq_true as_; have hx19 := bt_at a0 x7_1; replace p19 := eq_true p19; replace q19 := eq_true q19
              go_wp2
              go_roundg kj4
              case measure => have := HK1.out; have := HJ4.out; omega
              case rel => exact ⟨(x4_1), (x5_1), (x6_1), (wrap64 (x7_1 + 1)), (fs_), (fs_), (fs_), H', ⟨by have := HK1.out; have := HJ4.out; omega⟩, ⟨kr_ HO_4.out⟩, ⟨bl_ HB.out⟩⟩
            ·rw [if_neg c18] at H
             have c18b0 : decide (48 ≤ (bt a0 x7_1)) = false := decide_eq_false c18; clear c18; have H' := Aside0.mk H; clear H; have p15 : 0 ≤ (x7_1 : Int) := of_decide_eq_true as_; have q15 : x7_1 < (a0.size : Int) := of_decide_eq_true as_; have hx15 := bt_at a0 x7_1; replace p15 := eq_true p15; replace q15 := eq_true q15; have p17 : 0 ≤ (x7_1 : Int) := of_decide_eq_true as_; have q17 : x7_1 < (a0.size : Int) := of_decide_eq_true as_; have hx17 := bt_at a0 x7_1; replace p17 := eq_true p17; replace q17 := eq_true q17
             go_wp2
             go_roundg kj4
             case measure => have := HK1.out; have := HJ4.out; omega
             case rel => exact ⟨(x4_1), (x5_1), (x6_1), (wrap64 (x7_1 + 1)), (fs_), (fs_), (fs_), H', ⟨by have := HK1.out; have := HJ4.out; omega⟩, ⟨kr_ HO_4.out⟩, ⟨bl_ HB.out⟩⟩
          ·rw [if_neg c14] at H
           exact absurd H (by simp)
         ·rw [if_neg c13] at H
          exact absurd H (by simp)
     ·rw [if_neg c4] at H
      have c4b0 : decide (x7_1 ≤ (a0.size : Int)) = false := decide_eq_false c4; clear c4; replace H := Option.bind_eq_some_iff.mp H; obtain ⟨t118, A230, H⟩ := H; have A23 := Aside0.mk A230; clear A230
      by_cases c24 : t118 = true
      ·subst c24
       rw [if_pos rfl] at H
       replace H := Option.bind_eq_some_iff.mp H; obtain ⟨t119, A250, H⟩ := H; have A25 := Aside0.mk A250; clear A250
       simp only [Option.some.injEq, Prod.mk.injEq] at H
       obtain ⟨rfl, rfl⟩ := H; obtain ⟨Ao26, co26, eo26⟩ := Kd.R_slice HO_4.out; subst eo26
       go_wp2_with (first | ((with_reducible refine gate_callee (f := 17) rfl ?_); refine gl_ (some 64) Tryd.func17 #[.slice Ao26 x4_1.length co26] rfl ?_; (with_reducible refine (spec_poListed.calls k1 _ _ x4_1 true _ ?side1 ?side2 A23.out).mono ?_); (case side1 => exact cc_ (Kd.R_reads' HO_4.out).2.2); (case side2 => exact (Kd.R_reads' HO_4.out).2.1); rintro e w27 ⟨rfl, hb⟩; refine ⟨_, rfl, ?_⟩; replace HO_4 := Aside0.mk (Kd.R_below (kr_ HO_4.out) hb); replace HB := Aside0.mk (below_step (bl_ HB.out) hb); (try clear hb); (try clear hb2); (try clear hk); (try clear hi)) | (go_at_call 18; (with_reducible refine (spec_poText.calls k1 _ _ x4_1 t119 _ ?side1 ?side2 A25.out).mono ?_); (case side1 => exact cc_ (Kd.R_reads' HO_4.out).2.2); (case side2 => exact (Kd.R_reads' HO_4.out).2.1); rintro e w28 ⟨rfl, hb⟩; replace HO_4 := Aside0.mk (Kd.R_below (kr_ HO_4.out) hb); replace HB := Aside0.mk (below_step (bl_ HB.out) hb); (try clear hb); (try clear hb2); (try clear hk); (try clear hi)))
       go_ret2
       exact ⟨_, by first | rfl | (simp [errW_none, errW_some] <;> rfl) | (simp [*, errW_none, errW_some] <;> rfl), by (with_reducible repeat (first | apply Kd.R_alloc | apply Kd.R_drewN | apply Kd.R_drew)); exact HO_4.out, bl_ HB.out⟩
      ·replace c24 := Bool.eq_false_iff.mpr c24
       subst c24; rw [if_neg (show ¬ (false = true) by decide)] at H
       simp only [Option.some.injEq, Prod.mk.injEq] at H
       obtain ⟨rfl, rfl⟩ := H; obtain ⟨Ao29, co29, eo29⟩ := Kd.R_slice HO_4.out; subst eo29
       go_wp2_with (first | ((with_reducible refine gate_callee (f := 17) rfl ?_); refine gl_ (some 64) Tryd.func17 #[.slice Ao29 x4_1.length co29] rfl ?_; (with_reducible refine (spec_poListed.calls k1 _ _ x4_1 false _ ?side1 ?side2 A23.out).mono ?_); (case side1 => exact cc_ (Kd.R_reads' HO_4.out).2.2); (case side2 => exact (Kd.R_reads' HO_4.out).2.1); rintro e w30 ⟨rfl, hb⟩; refine ⟨_, rfl, ?_⟩; replace HO_4 := Aside0.mk (Kd.R_below (kr_ HO_4.out) hb); replace HB := Aside0.mk (below_step (bl_ HB.out) hb); (try clear hb); (try clear hb2); (try clear hk); (try clear hi)))
       go_ret2
       exact ⟨_, by first | rfl | (simp [errW_none, errW_some] <;> rfl) | (simp [*, errW_none, errW_some] <;> rfl), by (with_reducible repeat (first | apply Kd.R_alloc | apply Kd.R_drewN | apply Kd.R_drew)); exact HO_4.out, bl_ HB.out⟩
end Go.Proofs.YtcfcnnnkpdhecaaDoor.PFnExactParseDiagonals
