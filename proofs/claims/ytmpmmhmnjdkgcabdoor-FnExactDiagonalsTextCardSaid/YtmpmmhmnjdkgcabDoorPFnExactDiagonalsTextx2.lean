-- Written for this claim by a program of this session (wip/tools/xprint.py over the kit's printer, wip/tools/shrink.py).
import Derived.Test.YtmpmmhmnjdkgcabDoorPFnExactDiagonalsTextx0
import Derived.Test.YtmpmmhmnjdkgcabDoorPFnExactDiagonalsTextx1
namespace Go.Proofs.YtmpmmhmnjdkgcabDoor.PFnExactDiagonalsText
open Go.RowKit Go.Proofs.YtmpmmhmnjdkgcabDoorW.PrintWords Go.Proofs.YtmpmmhmnjdkgcabDoorW.PrintLast Go.Proofs.YtmpmmhmnjdkgcabDoorW.PrintMore
attribute [local go_sem] max2_int min2_int max_two min_two max_three min_three max_four min_four   -- for this text's walks alone
set_option linter.unusedVariables false
set_option linter.unusedSimpArgs false
def spec_poText.l0 : Nat → ByteArray → List (S33) → Int → Int → Option (ByteArray)
 | 0, _, _, _, _ => none
 | k + 1, x3, x9, x10, x11 => if x11 < x10 then (if 0 ≤ x11 then (if x11 < (x9.length : Int) then (if x11 > 0 then (if x3.size + 1 ≤ 9223372036854775807 then ((spec_l1Num.f k ((rd_T33 x9 x11).f0)).bind fun t114 => (if t114.size + 1 ≤ 9223372036854775807 then ((spec_l1Num.f k ((rd_T33 x9 x11).f1)).bind fun t115 => (if (t114 ++ (⟨#[45]⟩ : ByteArray)).size + t115.size ≤ 9223372036854775807 then (if (x3 ++ (⟨#[44]⟩ : ByteArray)).size + ((t114 ++ (⟨#[45]⟩ : ByteArray)) ++ t115).size ≤ 9223372036854775807 then (spec_poText.l0 k ((x3 ++ (⟨#[44]⟩ : ByteArray)) ++ ((t114 ++ (⟨#[45]⟩ : ByteArray)) ++ t115)) x9 x10 (wrap64 (x11 + 1))) else (none)) else (none))) else (none))) else (none)) else ((spec_l1Num.f k ((rd_T33 x9 x11).f0)).bind fun t116 => (if t116.size + 1 ≤ 9223372036854775807 then ((spec_l1Num.f k ((rd_T33 x9 x11).f1)).bind fun t117 => (if (t116 ++ (⟨#[45]⟩ : ByteArray)).size + t117.size ≤ 9223372036854775807 then (if x3.size + ((t116 ++ (⟨#[45]⟩ : ByteArray)) ++ t117).size ≤ 9223372036854775807 then (spec_poText.l0 k (x3 ++ ((t116 ++ (⟨#[45]⟩ : ByteArray)) ++ t117)) x9 x10 (wrap64 (x11 + 1))) else (none)) else (none))) else (none)))) else (none)) else (none)) else (some x3)
def spec_poText.f (k : Nat) (l0 : List (S33)) : Option (ByteArray) := if (l0.length : Int) = 0 then (some (⟨#[46]⟩ : ByteArray)) else (spec_poText.l0 k (⟨#[]⟩ : ByteArray) l0 (l0.length : Int) 0)
def spec_poText.T9 : Bool × List (List Nat × List Nat) := (true, [([], []), ([], []), ([1], [1]), ([2], [2]), ([3], [3]), ([], []), ([5], [5]), ([6, 3], [6]), ([4, 7], [4, 7]), ([0, 8], [0, 8]), ([9, 7, 0, 1, 2, 3, 4, 5, 6, 7, 8, 9], [0, 9])])
def spec_poText.B9 : List Nat := [0, 0, 2, 6, 14, 0, 32, 110, 254, 511, 1023]
theorem spec_poText.tab9 : rtab .any (opsOf Tryd.f10 9) = spec_poText.T9 := by kernel_rfl
theorem spec_poText.bits9 : waitsOk spec_poText.T9.2 spec_poText.B9 = true := by kernel_rfl
set_option maxHeartbeats 8000000 in
set_option maxRecDepth 100000 in
theorem spec_poText.calls (k : Nat) (A0 : Option Addr) (c0 : Nat) (l0 : List (S33)) (r : ByteArray) (w : World) (hr0 : Kd.C k33 w A0 l0.length l0) (hc0 : l0.length ≤ c0) (h : spec_poText.f k l0 = some r) :
  Calls Tryd.prog 10 #[.slice A0 l0.length c0] w fun e w' => e = .returned (.string r) ∧ Below w.heap.size w w' := by
 have hu33 := Tryd.underlying33; have HR0 := Aside0.mk hr0; have HC0 := Aside0.mk hc0; clear hr0 hc0; have HB := Aside0.mk (Below.refl w.heap.size w); have H : (if (l0.length : Int) = 0 then (some (⟨#[46]⟩ : ByteArray)) else (spec_poText.l0 k (⟨#[]⟩ : ByteArray) l0 (l0.length : Int) 0)) = some r := h
 clear h
 by_cases c2 : (l0.length : Int) = 0
 ·rw [if_pos c2] at H
  have c2b0 : ((l0.length : Int) == 0) = true := beq_iff_eq.mpr c2; have c2b1 : ((l0.length : Int) != 0) = false := bne_eq_false_iff_eq.mpr c2; clear c2; obtain rfl := Option.some.inj H
  go_enter Tryd.func10, Tryd.ntmps10
  go_wp2
  go_ret
  exact ⟨by first | rfl | (simp [errW_none, errW_some] <;> rfl) | (simp [*, errW_none, errW_some] <;> rfl), bl_ HB.out⟩
 ·rw [if_neg c2] at H
  have c2b0 : ((l0.length : Int) == 0) = false := beq_eq_false_iff_ne.mpr c2; have c2b1 : ((l0.length : Int) != 0) = true := bne_iff_ne.mpr c2; have c2b2 : ¬ (l0 = []) := fun h_ => c2 (by rw [h_]; rfl)
  have H' := Aside0.mk H; clear H
  go_enter Tryd.func10, Tryd.ntmps10
  go_wp2
  go_loopg [3, 11] k (fun kq v3 v11 w' => ∃ (x3_1 : ByteArray) (x11_1 : Int), v3 = .string x3_1 ∧ v11 = .int .i64 x11_1 ∧ Aside0 (spec_poText.l0 kq x3_1 l0 (l0.length : Int) x11_1 = some r) ∧ Aside0 (kq ≤ k) ∧ Aside0 (Below w.heap.size w w'))
  case atStart => exact ⟨((⟨#[]⟩ : ByteArray)), (0), (fs_), (fs_), H', ⟨Nat.le_refl _⟩, ⟨bl_ HB.out⟩⟩
  case round =>
   clear H'
   try clear c1
   try clear c2
   try clear c2b0
   try clear c2b1
   try clear c2b2
   try clear p2
   obtain ⟨x3_1, x11_1, rfl, rfl, HA, HK1, HB⟩ := hrel
   cases gk with
   | zero => exact absurd HA.out (by simp [spec_poText.l0])
   | succ k1 =>
    have H := HA.out; clear HA
    simp only [spec_poText.l0] at H
    by_cases c3 : x11_1 < (l0.length : Int)
    ·rw [if_pos c3] at H
     have c3b0 : decide (x11_1 < (l0.length : Int)) = true := decide_eq_true c3; clear c3
     by_cases c4 : 0 ≤ x11_1
     ·rw [if_pos c4] at H
      have c4b0 : decide (0 ≤ x11_1) = true := decide_eq_true c4; clear c4
      by_cases c5 : x11_1 < (l0.length : Int)
      ·rw [if_pos c5] at H
       have c5b0 : decide (x11_1 < (l0.length : Int)) = true := decide_eq_true c5; clear c5
       by_cases c6 : x11_1 > 0
       ·rw [if_pos c6] at H
        have c6b0 : decide (0 < x11_1) = true := decide_eq_true c6; clear c6
        by_cases c7 : x3_1.size + 1 ≤ 9223372036854775807
        ·rw [if_pos c7] at H
         have c7b0 := eq_true c7; have c7b1 : decide (x3_1.size + 1 ≤ 9223372036854775807) = true := decide_eq_true c7
         try have c7b2 : (9223372036854775807 < x3_1.size + 1) = False := eq_false (Nat.not_lt.2 c7)
         replace H := Option.bind_eq_some_iff.mp H; obtain ⟨t114, A80, H⟩ := H; replace H : (if t114.size + 1 ≤ 9223372036854775807 then ((spec_l1Num.f k1 ((rd_T33 l0 x11_1).f1)).bind fun t115 => (if (t114 ++ (⟨#[45]⟩ : ByteArray)).size + t115.size ≤ 9223372036854775807 then (if (x3_1 ++ (⟨#[44]⟩ : ByteArray)).size + ((t114 ++ (⟨#[45]⟩ : ByteArray)) ++ t115).size ≤ 9223372036854775807 then (spec_poText.l0 k1 ((x3_1 ++ (⟨#[44]⟩ : ByteArray)) ++ ((t114 ++ (⟨#[45]⟩ : ByteArray)) ++ t115)) l0 (l0.length : Int) (wrap64 (x11_1 + 1))) else (none)) else (none))) else (none)) = some r := H
         have A8 := Aside0.mk A80; clear A80
         by_cases c9 : t114.size + 1 ≤ 9223372036854775807
         ·rw [if_pos c9] at H
          have c9b0 := eq_true c9; have c9b1 : decide (t114.size + 1 ≤ 9223372036854775807) = true := decide_eq_true c9
          try have c9b2 : (9223372036854775807 < t114.size + 1) = False := eq_false (Nat.not_lt.2 c9)
          replace H := Option.bind_eq_some_iff.mp H; obtain ⟨t115, A100, H⟩ := H; replace H : (if (t114 ++ (⟨#[45]⟩ : ByteArray)).size + t115.size ≤ 9223372036854775807 then (if (x3_1 ++ (⟨#[44]⟩ : ByteArray)).size + ((t114 ++ (⟨#[45]⟩ : ByteArray)) ++ t115).size ≤ 9223372036854775807 then (spec_poText.l0 k1 ((x3_1 ++ (⟨#[44]⟩ : ByteArray)) ++ ((t114 ++ (⟨#[45]⟩ : ByteArray)) ++ t115)) l0 (l0.length : Int) (wrap64 (x11_1 + 1))) else (none)) else (none)) = some r := H
          have A10 := Aside0.mk A100; clear A100
          by_cases c11 : (t114 ++ (⟨#[45]⟩ : ByteArray)).size + t115.size ≤ 9223372036854775807
          ·rw [if_pos c11] at H
           have c11b0 := eq_true c11; have c11b1 : decide ((t114 ++ (⟨#[45]⟩ : ByteArray)).size + t115.size ≤ 9223372036854775807) = true := decide_eq_true c11
           try have c11b2 : (9223372036854775807 < (t114 ++ (⟨#[45]⟩ : ByteArray)).size + t115.size) = False := eq_false (Nat.not_lt.2 c11)
           try (have c11b2z_ := c11b2; simp only [ByteArray.size_append', ByteArray.size_mk', List.size_toArray, List.length_cons, List.length_nil, Nat.zero_add] at c11b2z_)
           by_cases c12 : (x3_1 ++ (⟨#[44]⟩ : ByteArray)).size + ((t114 ++ (⟨#[45]⟩ : ByteArray)) ++ t115).size ≤ 9223372036854775807
           ·rw [if_pos c12] at H
            have c12b0 := eq_true c12; have c12b1 : decide ((x3_1 ++ (⟨#[44]⟩ : ByteArray)).size + ((t114 ++ (⟨#[45]⟩ : ByteArray)) ++ t115).size ≤ 9223372036854775807) = true := decide_eq_true c12
            try have c12b2 : (9223372036854775807 < (x3_1 ++ (⟨#[44]⟩ : ByteArray)).size + ((t114 ++ (⟨#[45]⟩ : ByteArray)) ++ t115).size) = False := eq_false (Nat.not_lt.2 c12)
            try (have c12b2z_ := c12b2; simp only [ByteArray.size_append', ByteArray.size_mk', List.size_toArray, List.length_cons, List.length_nil, Nat.zero_add] at c12b2z_)
            have H' := Aside0.mk H; clear H; have p112 : 0 ≤ (x11_1 : Int) := of_decide_eq_true as_; have q112 : x11_1 < (l0.length : Int) := of_decide_eq_true as_; obtain ⟨ad112, e112, hx112_0, hx112_1⟩ := at_T33 HR0.out x11_1 p112 q112
            cases e112
            replace hx112_0 := (HB.out.cell (World.block_lt_of_cell? w _ hx112_0)).trans hx112_0; replace hx112_1 := (HB.out.cell (World.block_lt_of_cell? w _ hx112_1)).trans hx112_1; replace p112 := eq_true p112; replace q112 := eq_true q112
            try go_wp2_with (first | ((with_reducible refine gate_dst (N := 5) rfl ?_); refine box_event ?hg (N := 5) ?hd (cs := #[.int .i64 0, .int .i64 0]) (t := 33) ?hr ?_; (case hd => rfl); (case hg => rfl); (case hr => first | (go_simp; done) | (go_simp; rfl)); intro gb113 hg w13 hbox hb; have n0_ := Aside0.mk (below_step (bl_ HB.out) hb); have n1_ := Aside0.mk (hbox); have n2_ := Aside0.mk ((by rw [hg]; exact (below_size (bl_ HB.out)) : w.heap.size ≤ gb113)); have n3_ := Aside0.mk ((by rw [hg]; exact (below_size (bl_ HB.out)) : w.heap.size ≤ gb113)); clear HB; have HB := n0_; have BK113 := n1_; have GW113 := n2_; have GE113 := n3_; clear n0_ n1_ n2_ n3_; clear hb hbox hg; have hcz14_0 : w13.cell? ⟨gb113, 0, none⟩ = some (.int .i64 0) := (blk_cell BK113.out 0).trans rfl; have hcz14_1 : w13.cell? ⟨gb113, 1, none⟩ = some (.int .i64 0) := (blk_cell BK113.out 1).trans rfl; have hfz14_0 := blk_frozen BK113.out 0; have hfz14_1 := blk_frozen BK113.out 1))
            have n0_ : Aside0 (((w13.setCell ⟨gb113, 0, none⟩ (.int .i64 ((rd_T33 l0 x11_1).f0))).setCell ⟨gb113, 1, none⟩ (.int .i64 ((rd_T33 l0 x11_1).f1))).heap[gb113]? = some (.cells #[.int .i64 ((rd_T33 l0 x11_1).f0), .int .i64 ((rd_T33 l0 x11_1).f1)] 33 (0, 0))) := ⟨by (with_reducible repeat (first | refine blk_drewN ?_ _ | refine blk_drew ?_ | refine blk_alloc ?_ _)); refine blk_put (cs := #[.int .i64 ((rd_T33 l0 x11_1).f0), .int .i64 0]) ?_ 1 _ rfl; (with_reducible repeat (first | refine blk_drewN ?_ _ | refine blk_drew ?_ | refine blk_alloc ?_ _)); refine blk_put (cs := #[.int .i64 0, .int .i64 0]) ?_ 0 _ rfl; (with_reducible repeat (first | refine blk_drewN ?_ _ | refine blk_drew ?_ | refine blk_alloc ?_ _)); exact BK113.out⟩
            have n1_ : Aside0 (Below w.heap.size w ((w13.setCell ⟨gb113, 0, none⟩ (.int .i64 ((rd_T33 l0 x11_1).f0))).setCell ⟨gb113, 1, none⟩ (.int .i64 ((rd_T33 l0 x11_1).f1)))) := ⟨bs_ HB.out GE113.out⟩
            (try clear BK113)
            (try clear HB)
            generalize ((w13.setCell ⟨gb113, 0, none⟩ (.int .i64 ((rd_T33 l0 x11_1).f0))).setCell ⟨gb113, 1, none⟩ (.int .i64 ((rd_T33 l0 x11_1).f1))) = w15 at n0_ n1_ ⊢
            have BK113 := n0_; have HB := n1_; clear n0_ n1_; have n0_ := Aside0.mk (blk_drew BK113.out); have n1_ := Aside0.mk (below_drew1 HB.out); clear BK113; clear HB; have BK113 := n0_; have HB := n1_; clear n0_ n1_; refine start_ (n := 11) (S := fun w' => w'.cell? ⟨gb113, 0, none⟩ = some (.int .i64 ((rd_T33 l0 x11_1).f0)) ∧ w'.cell? ⟨gb113, 1, none⟩ = some (.int .i64 ((rd_T33 l0 x11_1).f1))) (ds := []) #[false, false, false, false, false, false, false, false, false, false, false] (by kernel_rfl) rfl rfl ⟨(blk_cell BK113.out 0).trans rfl, (blk_cell BK113.out 1).trans rfl⟩ (fun hHeld => ?_); refine with_tabW spec_poText.tab9 spec_poText.bits9 (fun HT_ HW_ => ?_)
            generalize w15.drew = w16 at BK113 HB hHeld ⊢
            refine pa_ 0 (some 20) rfl rfl HT_ ?_; refine pa_ 1 (some 21) rfl rfl HT_ ?_; refine pa_ 5 (some 25) rfl rfl HT_ ?_; refine ta0_ 2 (some 22) rfl rfl HT_ HW_ hHeld ?_; refine ta0_ 6 (some 26) rfl rfl HT_ HW_ hHeld ?_; refine one_ (i := 3) (N := some 23) #[true, true, true, true, false, true, true, false, false, false, false] rfl rfl (one_of HT_.out (by kernel_rfl)) (by decide) (fun K hK => ?_)
            refine goes_ Tryd.func16 (by kernel_rfl) rfl #[.int .i64 ((rd_T33 l0 x11_1).f0)] (by rfl) rfl rfl (by (try simp only [List.map_toArray, List.map_cons, List.map_nil]); first | done | rfl | (simp only [List.length_drop, List.length_take]; rfl)) ?_
            with_reducible refine (spec_l1Num.calls k1 ((rd_T33 l0 x11_1).f0) t114 _ A8.out).mono ?_
            rintro e w17 ⟨rfl, hb⟩
            refine ⟨_, rfl, ?_⟩; have n0_ := Aside0.mk (blk_below (g := gb113) (o := .cells #[.int .i64 ((rd_T33 l0 x11_1).f0), .int .i64 ((rd_T33 l0 x11_1).f1)] 33 (0, 0)) (bk_ BK113.out) hb); have n1_ := Aside0.mk (below_step (bs_ HB.out GE113.out) hb); clear BK113; clear HB; have BK113 := n0_; have HB := n1_; clear n0_ n1_
            (try clear hb)
            (try clear hb2)
            (try clear hk)
            (try clear hi)
            refine hK.out _ _ ⟨(blk_cell BK113.out 0).trans rfl, (blk_cell BK113.out 1).trans rfl⟩ (fun hHeld => ?_)
            clear hK K; refine na_ (some 23) ?_; refine pa_ 4 (some 24) rfl rfl HT_ ?_; refine one_ (i := 7) (N := some 27) #[true, true, true, true, true, true, true, true, false, false, false] rfl rfl (one_of HT_.out (by kernel_rfl)) (by decide) (fun K hK => ?_)
            refine goes_ Tryd.func16 (by kernel_rfl) rfl #[.int .i64 ((rd_T33 l0 x11_1).f1)] (by rfl) rfl rfl (by (try simp only [List.map_toArray, List.map_cons, List.map_nil]); first | done | rfl | (simp only [List.length_drop, List.length_take]; rfl)) ?_
            with_reducible refine (spec_l1Num.calls k1 ((rd_T33 l0 x11_1).f1) t115 _ A10.out).mono ?_
            rintro e w18 ⟨rfl, hb⟩
            refine ⟨_, rfl, ?_⟩; have n0_ := Aside0.mk (blk_below (g := gb113) (o := .cells #[.int .i64 ((rd_T33 l0 x11_1).f0), .int .i64 ((rd_T33 l0 x11_1).f1)] 33 (0, 0)) (bk_ BK113.out) hb); have n1_ := Aside0.mk (below_step (bs_ HB.out GE113.out) hb); clear BK113; clear HB; have BK113 := n0_; have HB := n1_; clear n0_ n1_
            (try clear hb)
            (try clear hb2)
            (try clear hk)
            (try clear hi)
            refine hK.out _ _ ⟨(blk_cell BK113.out 0).trans rfl, (blk_cell BK113.out 1).trans rfl⟩ (fun hHeld => ?_)
            clear hK K; refine na_ (some 27) ?_; refine pa_ 8 (some 28) rfl rfl HT_ ?_; refine pa_ 9 (some 29) rfl rfl HT_ ?_; refine pa_ 10 (some 3) rfl rfl HT_ ?_; refine done_ (done_of HT_.out (by kernel_rfl)) ?_
            try go_wp2
            go_roundg k1
            case measure => have := HK1.out; omega
            case rel => exact ⟨((x3_1 ++ (⟨#[44]⟩ : ByteArray)) ++ ((t114 ++ (⟨#[45]⟩ : ByteArray)) ++ t115)), (wrap64 (x11_1 + 1)), (fs_), (fs_), H', ⟨by have := HK1.out; omega⟩, ⟨bs_ HB.out GE113.out⟩⟩
           ·rw [if_neg c12] at H
            exact absurd H (by simp)
          ·rw [if_neg c11] at H
           exact absurd H (by simp)
         ·rw [if_neg c9] at H
          exact absurd H (by simp)
        ·rw [if_neg c7] at H
         exact absurd H (by simp)
       ·rw [if_neg c6] at H
        have c6b0 : decide (0 < x11_1) = false := decide_eq_false c6; clear c6; replace H := Option.bind_eq_some_iff.mp H; obtain ⟨t116, A190, H⟩ := H; replace H : (if t116.size + 1 ≤ 9223372036854775807 then ((spec_l1Num.f k1 ((rd_T33 l0 x11_1).f1)).bind fun t117 => (if (t116 ++ (⟨#[45]⟩ : ByteArray)).size + t117.size ≤ 9223372036854775807 then (if x3_1.size + ((t116 ++ (⟨#[45]⟩ : ByteArray)) ++ t117).size ≤ 9223372036854775807 then (spec_poText.l0 k1 (x3_1 ++ ((t116 ++ (⟨#[45]⟩ : ByteArray)) ++ t117)) l0 (l0.length : Int) (wrap64 (x11_1 + 1))) else (none)) else (none))) else (none)) = some r := H
        have A19 := Aside0.mk A190; clear A190
        by_cases c20 : t116.size + 1 ≤ 9223372036854775807
        ·rw [if_pos c20] at H
         have c20b0 := eq_true c20; have c20b1 : decide (t116.size + 1 ≤ 9223372036854775807) = true := decide_eq_true c20
         try have c20b2 : (9223372036854775807 < t116.size + 1) = False := eq_false (Nat.not_lt.2 c20)
         replace H := Option.bind_eq_some_iff.mp H; obtain ⟨t117, A210, H⟩ := H; replace H : (if (t116 ++ (⟨#[45]⟩ : ByteArray)).size + t117.size ≤ 9223372036854775807 then (if x3_1.size + ((t116 ++ (⟨#[45]⟩ : ByteArray)) ++ t117).size ≤ 9223372036854775807 then (spec_poText.l0 k1 (x3_1 ++ ((t116 ++ (⟨#[45]⟩ : ByteArray)) ++ t117)) l0 (l0.length : Int) (wrap64 (x11_1 + 1))) else (none)) else (none)) = some r := H
         have A21 := Aside0.mk A210; clear A210
         by_cases c22 : (t116 ++ (⟨#[45]⟩ : ByteArray)).size + t117.size ≤ 9223372036854775807
         ·rw [if_pos c22] at H
          have c22b0 := eq_true c22; have c22b1 : decide ((t116 ++ (⟨#[45]⟩ : ByteArray)).size + t117.size ≤ 9223372036854775807) = true := decide_eq_true c22
          try have c22b2 : (9223372036854775807 < (t116 ++ (⟨#[45]⟩ : ByteArray)).size + t117.size) = False := eq_false (Nat.not_lt.2 c22)
          try (have c22b2z_ := c22b2; simp only [ByteArray.size_append', ByteArray.size_mk', List.size_toArray, List.length_cons, List.length_nil, Nat.zero_add] at c22b2z_)
          by_cases c23 : x3_1.size + ((t116 ++ (⟨#[45]⟩ : ByteArray)) ++ t117).size ≤ 9223372036854775807
          ·rw [if_pos c23] at H
           have c23b0 := eq_true c23; have c23b1 : decide (x3_1.size + ((t116 ++ (⟨#[45]⟩ : ByteArray)) ++ t117).size ≤ 9223372036854775807) = true := decide_eq_true c23
           try have c23b2 : (9223372036854775807 < x3_1.size + ((t116 ++ (⟨#[45]⟩ : ByteArray)) ++ t117).size) = False := eq_false (Nat.not_lt.2 c23)
           try (have c23b2z_ := c23b2; simp only [ByteArray.size_append', ByteArray.size_mk', List.size_toArray, List.length_cons, List.length_nil, Nat.zero_add] at c23b2z_)
           have H' := Aside0.mk H; clear H; have p112 : 0 ≤ (x11_1 : Int) := of_decide_eq_true as_; have q112 : x11_1 < (l0.length : Int) := of_decide_eq_true as_; obtain ⟨ad112, e112, hx112_0, hx112_1⟩ := at_T33 HR0.out x11_1 p112 q112
           cases e112
           replace hx112_0 := (HB.out.cell (World.block_lt_of_cell? w _ hx112_0)).trans hx112_0; replace hx112_1 := (HB.out.cell (World.block_lt_of_cell? w _ hx112_1)).trans hx112_1; replace p112 := eq_true p112; replace q112 := eq_true q112
           try go_wp2_with (first | ((with_reducible refine gate_dst (N := 5) rfl ?_); refine box_event ?hg (N := 5) ?hd (cs := #[.int .i64 0, .int .i64 0]) (t := 33) ?hr ?_; (case hd => rfl); (case hg => rfl); (case hr => first | (go_simp; done) | (go_simp; rfl)); intro gb113 hg w24 hbox hb; have n0_ := Aside0.mk (below_step (bl_ HB.out) hb); have n1_ := Aside0.mk (hbox); have n2_ := Aside0.mk ((by rw [hg]; exact (below_size (bl_ HB.out)) : w.heap.size ≤ gb113)); have n3_ := Aside0.mk ((by rw [hg]; exact (below_size (bl_ HB.out)) : w.heap.size ≤ gb113)); clear HB; have HB := n0_; have BK113 := n1_; have GW113 := n2_; have GE113 := n3_; clear n0_ n1_ n2_ n3_; clear hb hbox hg; have hcz25_0 : w24.cell? ⟨gb113, 0, none⟩ = some (.int .i64 0) := (blk_cell BK113.out 0).trans rfl; have hcz25_1 : w24.cell? ⟨gb113, 1, none⟩ = some (.int .i64 0) := (blk_cell BK113.out 1).trans rfl; have hfz25_0 := blk_frozen BK113.out 0; have hfz25_1 := blk_frozen BK113.out 1))
           have n0_ : Aside0 (((w24.setCell ⟨gb113, 0, none⟩ (.int .i64 ((rd_T33 l0 x11_1).f0))).setCell ⟨gb113, 1, none⟩ (.int .i64 ((rd_T33 l0 x11_1).f1))).heap[gb113]? = some (.cells #[.int .i64 ((rd_T33 l0 x11_1).f0), .int .i64 ((rd_T33 l0 x11_1).f1)] 33 (0, 0))) := ⟨by (with_reducible repeat (first | refine blk_drewN ?_ _ | refine blk_drew ?_ | refine blk_alloc ?_ _)); refine blk_put (cs := #[.int .i64 ((rd_T33 l0 x11_1).f0), .int .i64 0]) ?_ 1 _ rfl; (with_reducible repeat (first | refine blk_drewN ?_ _ | refine blk_drew ?_ | refine blk_alloc ?_ _)); refine blk_put (cs := #[.int .i64 0, .int .i64 0]) ?_ 0 _ rfl; (with_reducible repeat (first | refine blk_drewN ?_ _ | refine blk_drew ?_ | refine blk_alloc ?_ _)); exact BK113.out⟩
           have n1_ : Aside0 (Below w.heap.size w ((w24.setCell ⟨gb113, 0, none⟩ (.int .i64 ((rd_T33 l0 x11_1).f0))).setCell ⟨gb113, 1, none⟩ (.int .i64 ((rd_T33 l0 x11_1).f1)))) := ⟨bs_ HB.out GE113.out⟩
           (try clear BK113)
           (try clear HB)
           generalize ((w24.setCell ⟨gb113, 0, none⟩ (.int .i64 ((rd_T33 l0 x11_1).f0))).setCell ⟨gb113, 1, none⟩ (.int .i64 ((rd_T33 l0 x11_1).f1))) = w26 at n0_ n1_ ⊢
           have BK113 := n0_; have HB := n1_; clear n0_ n1_; have n0_ := Aside0.mk (blk_drew BK113.out); have n1_ := Aside0.mk (below_drew1 HB.out); clear BK113; clear HB; have BK113 := n0_; have HB := n1_; clear n0_ n1_; refine start_ (n := 11) (S := fun w' => w'.cell? ⟨gb113, 0, none⟩ = some (.int .i64 ((rd_T33 l0 x11_1).f0)) ∧ w'.cell? ⟨gb113, 1, none⟩ = some (.int .i64 ((rd_T33 l0 x11_1).f1))) (ds := []) #[false, false, false, false, false, false, false, false, false, false, false] (by kernel_rfl) rfl rfl ⟨(blk_cell BK113.out 0).trans rfl, (blk_cell BK113.out 1).trans rfl⟩ (fun hHeld => ?_); refine with_tabW spec_poText.tab9 spec_poText.bits9 (fun HT_ HW_ => ?_)
           generalize w26.drew = w27 at BK113 HB hHeld ⊢
           refine pa_ 0 (some 20) rfl rfl HT_ ?_; refine pa_ 1 (some 21) rfl rfl HT_ ?_; refine pa_ 5 (some 25) rfl rfl HT_ ?_; refine ta0_ 2 (some 22) rfl rfl HT_ HW_ hHeld ?_; refine ta0_ 6 (some 26) rfl rfl HT_ HW_ hHeld ?_; refine one_ (i := 3) (N := some 23) #[true, true, true, true, false, true, true, false, false, false, false] rfl rfl (one_of HT_.out (by kernel_rfl)) (by decide) (fun K hK => ?_)
           refine goes_ Tryd.func16 (by kernel_rfl) rfl #[.int .i64 ((rd_T33 l0 x11_1).f0)] (by rfl) rfl rfl (by (try simp only [List.map_toArray, List.map_cons, List.map_nil]); first | done | rfl | (simp only [List.length_drop, List.length_take]; rfl)) ?_
           with_reducible refine (spec_l1Num.calls k1 ((rd_T33 l0 x11_1).f0) t116 _ A19.out).mono ?_
           rintro e w28 ⟨rfl, hb⟩
           refine ⟨_, rfl, ?_⟩; have n0_ := Aside0.mk (blk_below (g := gb113) (o := .cells #[.int .i64 ((rd_T33 l0 x11_1).f0), .int .i64 ((rd_T33 l0 x11_1).f1)] 33 (0, 0)) (bk_ BK113.out) hb); have n1_ := Aside0.mk (below_step (bs_ HB.out GE113.out) hb); clear BK113; clear HB; have BK113 := n0_; have HB := n1_; clear n0_ n1_
           (try clear hb)
           (try clear hb2)
           (try clear hk)
           (try clear hi)
           refine hK.out _ _ ⟨(blk_cell BK113.out 0).trans rfl, (blk_cell BK113.out 1).trans rfl⟩ (fun hHeld => ?_)
           clear hK K; refine na_ (some 23) ?_; refine pa_ 4 (some 24) rfl rfl HT_ ?_; refine one_ (i := 7) (N := some 27) #[true, true, true, true, true, true, true, true, false, false, false] rfl rfl (one_of HT_.out (by kernel_rfl)) (by decide) (fun K hK => ?_)
           refine goes_ Tryd.func16 (by kernel_rfl) rfl #[.int .i64 ((rd_T33 l0 x11_1).f1)] (by rfl) rfl rfl (by (try simp only [List.map_toArray, List.map_cons, List.map_nil]); first | done | rfl | (simp only [List.length_drop, List.length_take]; rfl)) ?_
           with_reducible refine (spec_l1Num.calls k1 ((rd_T33 l0 x11_1).f1) t117 _ A21.out).mono ?_
           rintro e w29 ⟨rfl, hb⟩
           refine ⟨_, rfl, ?_⟩; have n0_ := Aside0.mk (blk_below (g := gb113) (o := .cells #[.int .i64 ((rd_T33 l0 x11_1).f0), .int .i64 ((rd_T33 l0 x11_1).f1)] 33 (0, 0)) (bk_ BK113.out) hb); have n1_ := Aside0.mk (below_step (bs_ HB.out GE113.out) hb); clear BK113; clear HB; have BK113 := n0_; have HB := n1_; clear n0_ n1_
           (try clear hb)
           (try clear hb2)
           (try clear hk)
           (try clear hi)
           refine hK.out _ _ ⟨(blk_cell BK113.out 0).trans rfl, (blk_cell BK113.out 1).trans rfl⟩ (fun hHeld => ?_)
           clear hK K; refine na_ (some 27) ?_; refine pa_ 8 (some 28) rfl rfl HT_ ?_; refine pa_ 9 (some 29) rfl rfl HT_ ?_; refine pa_ 10 (some 3) rfl rfl HT_ ?_; refine done_ (done_of HT_.out (by kernel_rfl)) ?_
           try go_wp2
           go_roundg k1
           case measure => have := HK1.out; omega
           case rel => exact ⟨(x3_1 ++ ((t116 ++ (⟨#[45]⟩ : ByteArray)) ++ t117)), (wrap64 (x11_1 + 1)), (fs_), (fs_), H', ⟨by have := HK1.out; omega⟩, ⟨bs_ HB.out GE113.out⟩⟩
          ·rw [if_neg c23] at H
           exact absurd H (by simp)
         ·rw [if_neg c22] at H
          exact absurd H (by simp)
        ·rw [if_neg c20] at H
         exact absurd H (by simp)
      ·rw [if_neg c5] at H
       exact absurd H (by simp)
     ·rw [if_neg c4] at H
      exact absurd H (by simp)
    ·rw [if_neg c3] at H
     have c3b0 : decide (x11_1 < (l0.length : Int)) = false := decide_eq_false c3; clear c3; obtain rfl := Option.some.inj H
     go_wp2
     go_ret
     exact ⟨by first | rfl | (simp [errW_none, errW_some] <;> rfl) | (simp [*, errW_none, errW_some] <;> rfl), bl_ HB.out⟩
def spec_DiagonalsText.f (k : Nat) (l0 : List (S33)) : Option (ByteArray × Bool) := (spec_poListed.f k l0).bind fun t118 => (if t118 = true then ((spec_poText.f k l0).bind fun t119 => (some (t119, true))) else (some ((⟨#[]⟩ : ByteArray), false)))
set_option maxHeartbeats 8000000 in
set_option maxRecDepth 100000 in
theorem spec_DiagonalsText.calls (k : Nat) (A0 : Option Addr) (c0 : Nat) (l0 : List (S33)) (r1 : ByteArray) (r2 : Bool) (w : World) (hr0 : Kd.C k33 w A0 l0.length l0) (hc0 : l0.length ≤ c0) (h : spec_DiagonalsText.f k l0 = some (r1, r2)) :
  Calls Tryd.prog 5 #[.slice A0 l0.length c0] w fun e w' => e = .returned (.tuple #[.string r1, .bool r2]) ∧ Below w.heap.size w w' := by
 have HR0 := Aside0.mk hr0; have HC0 := Aside0.mk hc0; clear hr0 hc0; have HB := Aside0.mk (Below.refl w.heap.size w); have H : ((spec_poListed.f k l0).bind fun t118 => (if t118 = true then ((spec_poText.f k l0).bind fun t119 => (some (t119, true))) else (some ((⟨#[]⟩ : ByteArray), false)))) = some (r1, r2) := h
 clear h; replace H := Option.bind_eq_some_iff.mp H; obtain ⟨t118, A20, H⟩ := H; replace H : (if t118 = true then ((spec_poText.f k l0).bind fun t119 => (some (t119, true))) else (some ((⟨#[]⟩ : ByteArray), false))) = some (r1, r2) := H
 have A2 := Aside0.mk A20; clear A20
 by_cases c3 : t118 = true
 ·subst c3
  have H1 : ((spec_poText.f k l0).bind fun t119 => (some (t119, true))) = some (r1, r2) := by rw [if_pos rfl] at H; exact H
  clear H; have H := H1; clear H1; replace H := Option.bind_eq_some_iff.mp H; obtain ⟨t119, A40, H⟩ := H; replace H : (some (t119, true)) = some (r1, r2) := H; have A4 := Aside0.mk A40; clear A40
  simp only [Option.some.injEq, Prod.mk.injEq] at H
  obtain ⟨rfl, rfl⟩ := H
  go_enter Tryd.func5, Tryd.ntmps5
  go_wp2_with (first | ((with_reducible refine gate_callee (f := 9) rfl ?_); refine goesL_ (some 5) rfl rfl Tryd.func9 (by kernel_rfl) rfl #[.slice A0 l0.length c0] rfl (by (try simp only [List.map_toArray, List.map_cons, List.map_nil]); first | done | rfl | (simp only [List.length_drop, List.length_take]; rfl)) ?_; (with_reducible refine (spec_poListed.calls k _ _ l0 true _ ?side1 ?side2 A2.out).mono ?_); (case side1 => repeat (first | exact HR0.out | (with_reducible refine Kd.C_alloc ?_ _) | (with_reducible refine Kd.C_drewN ?_ _) | (with_reducible refine Kd.C_drew ?_))); (case side2 => exact HC0.out); rintro e w5 ⟨rfl, hb⟩; refine ⟨_, rfl, ?_⟩; have n0_ := Aside0.mk (below_step (bl_ HB.out) hb); clear HB; have HB := n0_; clear n0_; (try clear hb); (try clear hb2); (try clear hk); (try clear hi)) | ((with_reducible refine gate_callee (f := 10) rfl ?_); refine goesL_ (some 8) rfl rfl Tryd.func10 (by kernel_rfl) rfl #[.slice A0 l0.length c0] rfl (by (try simp only [List.map_toArray, List.map_cons, List.map_nil]); first | done | rfl | (simp only [List.length_drop, List.length_take]; rfl)) ?_; (with_reducible refine (spec_poText.calls k _ _ l0 t119 _ ?side1 ?side2 A4.out).mono ?_); (case side1 => repeat (first | exact (Kd.C_below HR0.out HB.out) | (with_reducible refine Kd.C_alloc ?_ _) | (with_reducible refine Kd.C_drewN ?_ _) | (with_reducible refine Kd.C_drew ?_))); (case side2 => exact HC0.out); rintro e w6 ⟨rfl, hb⟩; refine ⟨_, rfl, ?_⟩; have n0_ := Aside0.mk (below_step (bl_ HB.out) hb); clear HB; have HB := n0_; clear n0_; (try clear hb); (try clear hb2); (try clear hk); (try clear hi)))
  go_ret2
  exact ⟨by first | rfl | (simp [errW_none, errW_some] <;> rfl) | (simp [*, errW_none, errW_some] <;> rfl), bl_ HB.out⟩
 ·replace c3 := Bool.eq_false_iff.mpr c3
  subst c3; have H1 : (some ((⟨#[]⟩ : ByteArray), false)) = some (r1, r2) := by rw [if_neg (show ¬ (false = true) by decide)] at H; exact H
  clear H; have H := H1; clear H1
  simp only [Option.some.injEq, Prod.mk.injEq] at H
  obtain ⟨rfl, rfl⟩ := H
  go_enter Tryd.func5, Tryd.ntmps5
  go_wp2_with (first | ((with_reducible refine gate_callee (f := 9) rfl ?_); refine goesL_ (some 5) rfl rfl Tryd.func9 (by kernel_rfl) rfl #[.slice A0 l0.length c0] rfl (by (try simp only [List.map_toArray, List.map_cons, List.map_nil]); first | done | rfl | (simp only [List.length_drop, List.length_take]; rfl)) ?_; (with_reducible refine (spec_poListed.calls k _ _ l0 false _ ?side1 ?side2 A2.out).mono ?_); (case side1 => repeat (first | exact HR0.out | (with_reducible refine Kd.C_alloc ?_ _) | (with_reducible refine Kd.C_drewN ?_ _) | (with_reducible refine Kd.C_drew ?_))); (case side2 => exact HC0.out); rintro e w7 ⟨rfl, hb⟩; refine ⟨_, rfl, ?_⟩; have n0_ := Aside0.mk (below_step (bl_ HB.out) hb); clear HB; have HB := n0_; clear n0_; (try clear hb); (try clear hb2); (try clear hk); (try clear hi)))
  go_ret2
  exact ⟨by first | rfl | (simp [errW_none, errW_some] <;> rfl) | (simp [*, errW_none, errW_some] <;> rfl), bl_ HB.out⟩
end Go.Proofs.YtmpmmhmnjdkgcabDoor.PFnExactDiagonalsText
