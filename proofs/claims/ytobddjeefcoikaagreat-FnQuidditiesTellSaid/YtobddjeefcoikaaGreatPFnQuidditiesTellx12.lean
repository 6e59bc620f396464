-- Written for this claim by a program of this session (wip/tools/xprint.py over the kit's printer, wip/tools/shrink.py).
import Derived.Test.YtobddjeefcoikaaGreatPFnQuidditiesTellx0
import Derived.Test.YtobddjeefcoikaaGreatPFnQuidditiesTellx1
import Derived.Test.YtobddjeefcoikaaGreatPFnQuidditiesTellx2
import Derived.Test.YtobddjeefcoikaaGreatPFnQuidditiesTellx3
import Derived.Test.YtobddjeefcoikaaGreatPFnQuidditiesTellx9
import Derived.Test.YtobddjeefcoikaaGreatPFnQuidditiesTellx11
namespace Go.Proofs.YtobddjeefcoikaaGreat.PFnQuidditiesTell
open Go.RowKit Go.Proofs.YtobddjeefcoikaaGreatW.PrintWords Go.Proofs.YtobddjeefcoikaaGreatW.PrintLast Go.Proofs.YtobddjeefcoikaaGreatW.PrintMore
attribute [local go_sem] max2_int min2_int max_two min_two max_three min_three max_four min_four   -- for this text's walks alone
set_option linter.unusedVariables false
set_option linter.unusedSimpArgs false
attribute [local go_sem high] eqA46
mutual
def spec_TrianglesBeside.l0 : Nat → List (List Int) → List (List Int) → List (List Int) → Int → Int → Option ((List (List Int)) × Bool)
 | 0, _, _, _, _, _ => none
 | k + 1, x6, x7, x20, x21, x22 => if x22 < x21 then (if 0 ≤ x22 then (if x22 < (x20.length : Int) then (spec_TrianglesBeside.l1 k x6 x7 x22 (rd_L6 x20 x22) ([] : List Int) x20 x21 x22 x6 (x6.length : Int) 0) else (none)) else (none)) else (some (x7, true))
def spec_TrianglesBeside.l1 : Nat → List (List Int) → List (List Int) → Int → List Int → List Int → List (List Int) → Int → Int → List (List Int) → Int → Int → Option ((List (List Int)) × Bool)
 | 0, _, _, _, _, _, _, _, _, _, _, _ => none
 | k + 1, x6, x7, x8, x9, x10, x20, x21, x22, x27, x28, x29 => if x29 < x28 then (if 0 ≤ x29 then (if x29 < (x27.length : Int) then (if x8 = x29 then (spec_TrianglesBeside.l1 k x6 x7 x8 x9 x10 x20 x21 x22 x27 x28 (wrap64 (x29 + 1))) else ((spec_poShared.f k x9 (rd_L6 x27 x29)).bind fun t476 => (if t476 = 2 then (if x10.length < 17592186044416 then (spec_TrianglesBeside.l1 k x6 x7 x8 x9 (x10 ++ [x29]) x20 x21 x22 x27 x28 (wrap64 (x29 + 1))) else (none)) else (spec_TrianglesBeside.l1 k x6 x7 x8 x9 x10 x20 x21 x22 x27 x28 (wrap64 (x29 + 1)))))) else (none)) else (none)) else (if x7.length < 5864062014805 then (spec_TrianglesBeside.l0 k x6 (x7 ++ [x10]) x20 x21 (wrap64 (x22 + 1))) else (none))
end
def spec_TrianglesBeside.f (k : Nat) (a0 : Int) (l1 : List (S46)) : Option ((List (List Int)) × Bool) := (spec_poGood.f k a0 l1).bind fun t470 => (if t470 = true then ((spec_poTriangles.f k a0 l1).bind fun t471 => (spec_TrianglesBeside.l0 k t471 ([] : List (List Int)) t471 (t471.length : Int) 0)) else (some (([] : List (List Int)), false)))
set_option maxHeartbeats 8000000 in
set_option maxRecDepth 100000 in
theorem spec_TrianglesBeside.calls (k : Nat) (a0 : Int) (A1 : Option Addr) (c1 : Nat) (l1 : List (S46)) (r1 : List (List Int)) (r2 : Bool) (w : World) (hr1 : Kd.C k46 w A1 l1.length l1) (hc1 : l1.length ≤ c1) (h : spec_TrianglesBeside.f k a0 l1 = some (r1, r2)) :
  Calls Tryz.prog 13 #[.int .i64 a0, .slice A1 l1.length c1] w fun e w' => ∃ v0_ : Value, e = .returned (.tuple #[v0_, .bool r2]) ∧ Kd.S (Kd.slice 3 (Kd.int .i64)) 27 w' w.heap.size (fun _ => True) v0_ r1 ∧ Below w.heap.size w w' := by
 have HR1 := Aside0.mk hr1; have HC1 := Aside0.mk hc1; clear hr1 hc1; have HB := Aside0.mk (Below.refl w.heap.size w); have H : ((spec_poGood.f k a0 l1).bind fun t470 => (if t470 = true then ((spec_poTriangles.f k a0 l1).bind fun t471 => (spec_TrianglesBeside.l0 k t471 ([] : List (List Int)) t471 (t471.length : Int) 0)) else (some (([] : List (List Int)), false)))) = some (r1, r2) := h
 clear h; replace H := Option.bind_eq_some_iff.mp H; obtain ⟨t470, A30, H⟩ := H; have A3 := Aside0.mk A30; clear A30
 by_cases c4 : t470 = true
 ·subst c4
  rw [if_pos rfl] at H
  replace H := Option.bind_eq_some_iff.mp H; obtain ⟨t471, A50, H⟩ := H; have A5 := Aside0.mk A50; clear A50; have H' := Aside0.mk H; clear H
  go_enter Tryz.func13, Tryz.ntmps13
  go_wp2_with (first | ((with_reducible refine gate_callee (f := 34) rfl ?_); refine gl_ (some 15) Tryz.func34 #[.int .i64 a0, .slice A1 l1.length c1] rfl ?_; (with_reducible refine (spec_poGood.calls k a0 _ _ l1 true _ ?side1 ?side2 A3.out).mono ?_); (case side1 => exact cc_ HR1.out); (case side2 => exact HC1.out); rintro e w6 ⟨rfl, hb⟩; refine ⟨_, rfl, ?_⟩; replace HB := Aside0.mk (below_step (bl_ HB.out) hb); (try clear hb); (try clear hb2); (try clear hk); (try clear hi)) | ((with_reducible refine gate_callee (f := 37) rfl ?_); refine gl_ (some 19) Tryz.func37 #[.int .i64 a0, .slice A1 l1.length c1] rfl ?_; (with_reducible refine (spec_poTriangles.calls k a0 _ _ l1 t471 _ ?side1 ?side2 A5.out).mono ?_); (case side1 => exact cc_ (Kd.C_below HR1.out HB.out)); (case side2 => exact HC1.out); rintro e w7 ⟨v472, rfl, ho0, hb⟩; refine ⟨_, rfl, ?_⟩; have HO473 := Aside0.mk (Kd.S_lower ho0 (below_size (bl_ HB.out))); replace HB := Aside0.mk (below_step (bl_ HB.out) hb); (try clear hb); (try clear hb2); (try clear hk); (try clear hi); (try clear ho0); obtain ⟨Ao8, co8, eo8⟩ := Kd.S_slice HO473.out; subst eo8))
  go_loopg [7, 22] k (fun kq v7 v22 w' => ∃ (x7_1 : List (List Int)) (x22_1 : Int), v22 = .int .i64 x22_1 ∧ Aside0 (spec_TrianglesBeside.l0 kq t471 x7_1 t471 (t471.length : Int) x22_1 = some (r1, r2)) ∧ Aside0 (kq ≤ k) ∧ Aside0 (Kd.S (Kd.slice 3 (Kd.int .i64)) 27 w' w.heap.size (fun k_ => some k_ ≠ (v7 : Value).ownBlock) (.slice Ao8 t471.length co8) t471) ∧ Aside0 (Kd.S (Kd.slice 3 (Kd.int .i64)) 27 w' w.heap.size (fun k_ => some k_ ≠ ((.slice Ao8 t471.length co8) : Value).ownBlock ∧ some k_ ≠ ((.slice Ao8 t471.length co8) : Value).ownBlock) v7 x7_1) ∧ Aside0 (Kd.S (Kd.slice 3 (Kd.int .i64)) 27 w' w.heap.size (fun k_ => some k_ ≠ (v7 : Value).ownBlock) (.slice Ao8 t471.length co8) t471) ∧ Aside0 (Below w.heap.size w w'))
  case atStart => exact ⟨(([] : List (List Int))), (0), (fs_), H', ⟨Nat.le_refl _⟩, ⟨by (with_reducible repeat (first | apply Kd.S_alloc | apply Kd.S_drewN | apply Kd.S_drew)); exact Kd.S_mono HO473.out (fun _ hk => (by simp [Value.ownBlock]))⟩, ⟨by first | exact Kd.S_nil _ _ _ _ _ | exact Kd.N_nil _ _ _ _ _ | exact Kd.V_nil _ _ _ _ _ | exact Kd.Q_nil _ _ _ _ _ | exact Kd.R_nil _ _ _ _ _⟩, ⟨by (with_reducible repeat (first | apply Kd.S_alloc | apply Kd.S_drewN | apply Kd.S_drew)); exact Kd.S_mono HO473.out (fun _ hk => (by simp [Value.ownBlock]))⟩, ⟨bl_ HB.out⟩⟩
  case round =>
   clear H'
   try clear c1
   try clear p2
   try clear c3
   try clear c4
   obtain ⟨x7_1, x22_1, rfl, HA, HK1, HO_6, HO_7, HO_20, HB⟩ := hrel
   cases gk with
   | zero => exact absurd HA.out (by simp [spec_TrianglesBeside.l0])
   | succ k1 =>
    have H := HA.out; clear HA
    simp only [spec_TrianglesBeside.l0] at H
    by_cases c9 : x22_1 < (t471.length : Int)
    ·rw [if_pos c9] at H
     have c9b0 : decide (x22_1 < (t471.length : Int)) = true := decide_eq_true c9; clear c9
     by_cases c10 : 0 ≤ x22_1
     ·rw [if_pos c10] at H
      have c10b0 : decide (0 ≤ x22_1) = true := decide_eq_true c10; clear c10
      by_cases c11 : x22_1 < (t471.length : Int)
      ·rw [if_pos c11] at H
       have c11b0 : decide (x22_1 < (t471.length : Int)) = true := decide_eq_true c11; clear c11; have H' := Aside0.mk H; clear H; have p474 : 0 ≤ (x22_1 : Int) := of_decide_eq_true as_; have q474 : x22_1 < (t471.length : Int) := of_decide_eq_true as_; obtain ⟨ad474, A474_0, c474_0, e474, hx474_0, hl474_0, hi474_0⟩ := at_L6 (Kd.S_reads' HO_20.out).2.2 x22_1 p474 q474
       cases e474
       obtain ⟨ce474, hce474, hMe474, hcc474⟩ := Kd.S_get HO_20.out [] x22_1 p474 (by first | exact q474 | exact of_decide_eq_true as_ | (have e_ := (Kd.S_reads' HO_20.out).1; omega))
       obtain ⟨ve474_0, rfl, ge474_0⟩ := hMe474; have hv474_0 := hcc474 0 _ rfl; rw [Nat.add_zero, show ((Kd.slice 3 (Kd.int .i64))).sz = 1 from rfl, Nat.mul_one] at hv474_0
       replace hv474_0 := Option.some.inj (hv474_0.symm.trans hx474_0); rw [hv474_0] at ge474_0
       have HL474_0 := Aside0.mk (show Kd.R (Kd.int .i64) 3 _ _ _ _ (rd_L6 t471 x22_1) from ge474_0)
       clear hv474_0 ge474_0; clear hcc474 hce474; have HR474_0 := Aside0.mk hi474_0; have HC474_0 := Aside0.mk hl474_0; clear hi474_0 hl474_0; replace p474 := eq_true p474; replace q474 := eq_true q474
       go_wp2
       go_loopg [10, 29] k1 (fun kq v10 v29 w' => ∃ (x10_2 : List Int) (x29_2 : Int), v29 = .int .i64 x29_2 ∧ Aside0 (spec_TrianglesBeside.l1 kq t471 x7_1 x22_1 (rd_L6 t471 x22_1) x10_2 t471 (t471.length : Int) x22_1 t471 (t471.length : Int) x29_2 = some (r1, r2)) ∧ Aside0 (kq ≤ k1) ∧ Aside0 (Kd.S (Kd.slice 3 (Kd.int .i64)) 27 w' w.heap.size (fun k_ => some k_ ≠ (u7 : Value).ownBlock ∧ some k_ ≠ (v10 : Value).ownBlock) (.slice (some ad474) t471.length co8) t471) ∧ Aside0 (Kd.S (Kd.slice 3 (Kd.int .i64)) 27 w' w.heap.size (fun k_ => some k_ ≠ ((.slice (some ad474) t471.length co8) : Value).ownBlock ∧ some k_ ≠ (v10 : Value).ownBlock ∧ some k_ ≠ ((.slice (some ad474) t471.length co8) : Value).ownBlock ∧ some k_ ≠ ((.slice (some ad474) t471.length co8) : Value).ownBlock) u7 x7_1) ∧ Aside0 (Kd.R (Kd.int .i64) 3 w' w.heap.size (fun _ => True) v10 x10_2) ∧ Aside0 (Kd.S (Kd.slice 3 (Kd.int .i64)) 27 w' w.heap.size (fun k_ => some k_ ≠ (u7 : Value).ownBlock ∧ some k_ ≠ (v10 : Value).ownBlock) (.slice (some ad474) t471.length co8) t471) ∧ Aside0 (Kd.S (Kd.slice 3 (Kd.int .i64)) 27 w' w.heap.size (fun k_ => some k_ ≠ (u7 : Value).ownBlock ∧ some k_ ≠ (v10 : Value).ownBlock) (.slice (some ad474) t471.length co8) t471) ∧ Aside0 (Kd.R (Kd.int .i64) 3 w' w.heap.size (fun k_ => some k_ ≠ (u7 : Value).ownBlock ∧ some k_ ≠ (v10 : Value).ownBlock) (.slice A474_0 (rd_L6 t471 x22_1).length c474_0) (rd_L6 t471 x22_1)) ∧ Aside0 (Below w.heap.size w w'))
       case atStart => exact ⟨(([] : List Int)), (0), (fs_), H', ⟨Nat.le_refl _⟩, ⟨by (with_reducible repeat (first | apply Kd.S_alloc | apply Kd.S_drewN | apply Kd.S_drew)); exact Kd.S_mono HO_6.out (fun _ hk => ⟨hk, (by simp [Value.ownBlock])⟩)⟩, ⟨by (with_reducible repeat (first | apply Kd.S_alloc | apply Kd.S_drewN | apply Kd.S_drew)); exact Kd.S_mono HO_7.out (fun _ hk => ⟨hk.1, ⟨(by simp [Value.ownBlock]), ⟨hk.2, hk.1⟩⟩⟩)⟩, ⟨by first | exact Kd.R_nil _ _ _ _ _ | exact Kd.N_nil _ _ _ _ _ | exact Kd.V_nil _ _ _ _ _ | exact Kd.Q_nil _ _ _ _ _ | exact Kd.S_nil _ _ _ _ _⟩, ⟨by (with_reducible repeat (first | apply Kd.S_alloc | apply Kd.S_drewN | apply Kd.S_drew)); exact Kd.S_mono HO_20.out (fun _ hk => ⟨hk, (by simp [Value.ownBlock])⟩)⟩, ⟨by (with_reducible repeat (first | apply Kd.S_alloc | apply Kd.S_drewN | apply Kd.S_drew)); exact Kd.S_mono HO_6.out (fun _ hk => ⟨hk, (by simp [Value.ownBlock])⟩)⟩, ⟨by (with_reducible repeat (first | apply Kd.R_alloc | apply Kd.R_drewN | apply Kd.R_drew)); first | exact Kd.R_mono HL474_0.out (fun _ hk => ⟨hk.1.1, hk.2⟩) | exact Kd.R_mono HL474_0.out (fun _ hk => ⟨hk.1, (by simp [Value.ownBlock])⟩)⟩, ⟨bl_ HB.out⟩⟩
       case round =>
        clear H'
        try clear c1
        try clear p2
        try clear c3
        try clear c4
        try clear p4
        try clear q4
        try clear hx4
        try clear c9
        try clear c9b0
        try clear c10
        try clear c10b0
        try clear c11
        try clear c11b0
        try clear hx474_0
        try clear p2
        try clear p474
        try clear q474
        obtain ⟨x10_2, x29_2, rfl, HA, HK2, HO_6, HO_7, HO_10, HO_20, HO_27, HO_X9, HB⟩ := hrel
        cases gk with
        | zero => exact absurd HA.out (by simp [spec_TrianglesBeside.l1])
        | succ k2 =>
         have H := HA.out; clear HA
         simp only [spec_TrianglesBeside.l1] at H
         by_cases c12 : x29_2 < (t471.length : Int)
         ·rw [if_pos c12] at H
          have c12b0 : decide (x29_2 < (t471.length : Int)) = true := decide_eq_true c12; clear c12
          by_cases c13 : 0 ≤ x29_2
          ·rw [if_pos c13] at H
           have c13b0 : decide (0 ≤ x29_2) = true := decide_eq_true c13; clear c13
           by_cases c14 : x29_2 < (t471.length : Int)
           ·rw [if_pos c14] at H
            have c14b0 : decide (x29_2 < (t471.length : Int)) = true := decide_eq_true c14; clear c14
            by_cases c15 : x22_1 = x29_2
            ·rw [if_pos c15] at H
             have c15b0 : (x22_1 == x29_2) = true := beq_iff_eq.mpr c15; have c15b1 : (x22_1 != x29_2) = false := bne_eq_false_iff_eq.mpr c15; clear c15; have H' := Aside0.mk H; clear H; have p475 : 0 ≤ (x29_2 : Int) := of_decide_eq_true as_; have q475 : x29_2 < (t471.length : Int) := of_decide_eq_true as_; obtain ⟨ad475, A475_0, c475_0, e475, hx475_0, hl475_0, hi475_0⟩ := at_L6 (Kd.S_reads' HO_27.out).2.2 x29_2 p475 q475; obtain rfl : ad474 = ad475 := (by injection e475)
             obtain ⟨ce475, hce475, hMe475, hcc475⟩ := Kd.S_get HO_27.out [] x29_2 p475 (by first | exact q475 | exact of_decide_eq_true as_ | (have e_ := (Kd.S_reads' HO_27.out).1; omega))
             obtain ⟨ve475_0, rfl, ge475_0⟩ := hMe475; have hv475_0 := hcc475 0 _ rfl; rw [Nat.add_zero, show ((Kd.slice 3 (Kd.int .i64))).sz = 1 from rfl, Nat.mul_one] at hv475_0
             replace hv475_0 := Option.some.inj (hv475_0.symm.trans hx475_0); rw [hv475_0] at ge475_0
             have HL475_0 := Aside0.mk (show Kd.R (Kd.int .i64) 3 _ _ _ _ (rd_L6 t471 x29_2) from ge475_0)
             clear hv475_0 ge475_0; clear hcc475 hce475; have HR475_0 := Aside0.mk hi475_0; have HC475_0 := Aside0.mk hl475_0; clear hi475_0 hl475_0; replace p475 := eq_true p475; replace q475 := eq_true q475
             go_wp2
             go_roundg k2
             case measure => have := HK1.out; have := HK2.out; omega
             case rel => exact ⟨(x10_2), (wrap64 (x29_2 + 1)), (fs_), H', ⟨by have := HK1.out; have := HK2.out; omega⟩, ⟨ks_ HO_6.out⟩, ⟨ks_ HO_7.out⟩, ⟨kr_ HO_10.out⟩, ⟨ks_ HO_20.out⟩, ⟨ks_ HO_27.out⟩, ⟨kr_ HO_X9.out⟩, ⟨bl_ HB.out⟩⟩
            ·rw [if_neg c15] at H
             have c15b0 : (x22_1 == x29_2) = false := beq_eq_false_iff_ne.mpr c15; have c15b1 : (x22_1 != x29_2) = true := bne_iff_ne.mpr c15; replace H := Option.bind_eq_some_iff.mp H; obtain ⟨t476, A160, H⟩ := H; have A16 := Aside0.mk A160; clear A160
             by_cases c17 : t476 = 2
             ·rw [if_pos c17] at H
              have c17b0 : (t476 == 2) = true := beq_iff_eq.mpr c17; have c17b1 : (t476 != 2) = false := bne_eq_false_iff_eq.mpr c17; clear c17
              by_cases c18 : x10_2.length < 17592186044416
              ·rw [if_pos c18] at H
               have LMc18 := Aside0.mk c18; clear c18; obtain ⟨y477, hy477⟩ : ∃ y_ : List Int, y_ = (x10_2 ++ [x29_2]) := ⟨_, rfl⟩; replace H : (spec_TrianglesBeside.l1 k2 t471 x7_1 x22_1 (rd_L6 t471 x22_1) y477 t471 (t471.length : Int) x22_1 t471 (t471.length : Int) (wrap64 (x29_2 + 1))) = some (r1, r2) := rh_ hy477 H; have Ny477 := Aside0.mk hy477; clear hy477; have H' := Aside0.mk H; clear H; have p475 : 0 ≤ (x29_2 : Int) := of_decide_eq_true as_; have q475 : x29_2 < (t471.length : Int) := of_decide_eq_true as_; obtain ⟨ad475, A475_0, c475_0, e475, hx475_0, hl475_0, hi475_0⟩ := at_L6 (Kd.S_reads' HO_27.out).2.2 x29_2 p475 q475; obtain rfl : ad474 = ad475 := (by injection e475)
               obtain ⟨ce475, hce475, hMe475, hcc475⟩ := Kd.S_get HO_27.out [] x29_2 p475 (by first | exact q475 | exact of_decide_eq_true as_ | (have e_ := (Kd.S_reads' HO_27.out).1; omega))
               obtain ⟨ve475_0, rfl, ge475_0⟩ := hMe475; have hv475_0 := hcc475 0 _ rfl; rw [Nat.add_zero, show ((Kd.slice 3 (Kd.int .i64))).sz = 1 from rfl, Nat.mul_one] at hv475_0
               replace hv475_0 := Option.some.inj (hv475_0.symm.trans hx475_0); rw [hv475_0] at ge475_0
               have HL475_0 := Aside0.mk (show Kd.R (Kd.int .i64) 3 _ _ _ _ (rd_L6 t471 x29_2) from ge475_0)
               clear hv475_0 ge475_0; clear hcc475 hce475; have HR475_0 := Aside0.mk hi475_0; have HC475_0 := Aside0.mk hl475_0; clear hi475_0 hl475_0; replace p475 := eq_true p475; replace q475 := eq_true q475
               go_wp2_with (first | (go_at_call 39; (with_reducible refine (spec_poShared.calls k2 _ _ (rd_L6 t471 x22_1) _ _ (rd_L6 t471 x29_2) t476 _ ?side1 ?side2 ?side3 ?side4 A16.out).mono ?_); (case side1 => exact cc_ (Kd.R_reads' HO_X9.out).2.2); (case side2 => exact HC474_0.out); (case side3 => exact (cc_ HR475_0.out)); (case side4 => exact HC475_0.out); rintro e w' ⟨rfl, ⟨nd, rfl⟩⟩) | ((with_reducible refine gate_builtin (b := .append) (xs := #[.tmp 43, .tmp 45]) rfl ?_); at_builtin; refine Kd.R_append (Kd.int .i64) (w0 := w) w.heap.size rfl (.tmp 43) (.tmp 45) 27 3 (.int .i64 0) 8 rfl Tryz.underlying27 info3 rfl (by decide) (by omega) u10 x10_2 x29_2 [.int .i64 x29_2] (fun _ => True) (fun _ => False) rfl rfl ?aP (fun _ hk => hk.elim) ?aF ?aO ?aB ?aS ?aL ?_; (case aP => exact rfl); (case aB => exact (bl_ HB.out)); (case aF => exact (fun _ _ => trivial)); (case aO => exact (kr_ HO_10.out)); (case aS => exact (below_size (bl_ HB.out))); (case aL => have := LMc18.out; omega); intro v478 w19 ho hb hg hat; rw [← Ny477.out] at ho; have X9_ := Aside0.mk (Kd.R_after (ok := (fun k_ => some k_ ≠ (u7 : Value).ownBlock)) (kr_ HO_X9.out) hg hat); clear HO_X9; have HO_X9 := X9_; clear X9_; replace HO_6 := Aside0.mk (Kd.S_after (ok := (fun k_ => some k_ ≠ (u7 : Value).ownBlock)) (ks_ HO_6.out) hg hat); replace HO_7 := Aside0.mk (Kd.S_after (ok := (fun k_ => some k_ ≠ (.slice (some ad474) t471.length co8 : Value).ownBlock ∧ some k_ ≠ (.slice (some ad474) t471.length co8 : Value).ownBlock ∧ some k_ ≠ (.slice (some ad474) t471.length co8 : Value).ownBlock)) (by (with_reducible repeat (first | apply Kd.S_alloc | apply Kd.S_drewN | apply Kd.S_drew)); exact Kd.S_mono HO_7.out (fun _ hk => ⟨⟨hk.1, ⟨hk.2.2.1, hk.2.2.2⟩⟩, hk.2.1⟩)) hg hat); replace HO_20 := Aside0.mk (Kd.S_after (ok := (fun k_ => some k_ ≠ (u7 : Value).ownBlock)) (ks_ HO_20.out) hg hat); replace HO_27 := Aside0.mk (Kd.S_after (ok := (fun k_ => some k_ ≠ (u7 : Value).ownBlock)) (ks_ HO_27.out) hg hat); replace HL475_0 := Aside0.mk (Kd.R_after (ok := (fun k_ => some k_ ≠ (u7 : Value).ownBlock ∧ some k_ ≠ (.slice (some ad474) t471.length co8 : Value).ownBlock)) (by (with_reducible repeat (first | apply Kd.R_alloc | apply Kd.R_drewN | apply Kd.R_drew)); exact Kd.R_mono HL475_0.out (fun _ hk => ⟨⟨hk.1.1, hk.2⟩, hk.1.2⟩)) hg hat); replace HB := Aside0.mk (hb); have HO479 := Aside0.mk (ho); clear HO_10 ho hb hg hat))
               go_roundg k2
               case measure => have := HK1.out; have := HK2.out; omega
               case rel => exact ⟨(y477), (wrap64 (x29_2 + 1)), (fs_), H', ⟨by have := HK1.out; have := HK2.out; omega⟩, ⟨ks_ HO_6.out⟩, ⟨by (with_reducible repeat (first | apply Kd.S_alloc | apply Kd.S_drewN | apply Kd.S_drew)); exact Kd.S_mono HO_7.out (fun _ hk => ⟨hk.1.1, ⟨hk.2, ⟨hk.1.2.1, hk.1.2.2⟩⟩⟩)⟩, ⟨kr_ HO479.out⟩, ⟨ks_ HO_20.out⟩, ⟨ks_ HO_27.out⟩, ⟨kr_ HO_X9.out⟩, ⟨bl_ HB.out⟩⟩
              ·rw [if_neg c18] at H
               exact absurd H (by simp)
             ·rw [if_neg c17] at H
              have c17b0 : (t476 == 2) = false := beq_eq_false_iff_ne.mpr c17; have c17b1 : (t476 != 2) = true := bne_iff_ne.mpr c17; have H' := Aside0.mk H; clear H; have p475 : 0 ≤ (x29_2 : Int) := of_decide_eq_true as_; have q475 : x29_2 < (t471.length : Int) := of_decide_eq_true as_; obtain ⟨ad475, A475_0, c475_0, e475, hx475_0, hl475_0, hi475_0⟩ := at_L6 (Kd.S_reads' HO_27.out).2.2 x29_2 p475 q475; obtain rfl : ad474 = ad475 := (by injection e475)
              obtain ⟨ce475, hce475, hMe475, hcc475⟩ := Kd.S_get HO_27.out [] x29_2 p475 (by first | exact q475 | exact of_decide_eq_true as_ | (have e_ := (Kd.S_reads' HO_27.out).1; omega))
              obtain ⟨ve475_0, rfl, ge475_0⟩ := hMe475; have hv475_0 := hcc475 0 _ rfl; rw [Nat.add_zero, show ((Kd.slice 3 (Kd.int .i64))).sz = 1 from rfl, Nat.mul_one] at hv475_0
              replace hv475_0 := Option.some.inj (hv475_0.symm.trans hx475_0); rw [hv475_0] at ge475_0
              have HL475_0 := Aside0.mk (show Kd.R (Kd.int .i64) 3 _ _ _ _ (rd_L6 t471 x29_2) from ge475_0)
              clear hv475_0 ge475_0; clear hcc475 hce475; have HR475_0 := Aside0.mk hi475_0; have HC475_0 := Aside0.mk hl475_0; clear hi475_0 hl475_0; replace p475 := eq_true p475; replace q475 := eq_true q475
              go_wp2_with (first | (go_at_call 39; (with_reducible refine (spec_poShared.calls k2 _ _ (rd_L6 t471 x22_1) _ _ (rd_L6 t471 x29_2) t476 _ ?side1 ?side2 ?side3 ?side4 A16.out).mono ?_); (case side1 => exact cc_ (Kd.R_reads' HO_X9.out).2.2); (case side2 => exact HC474_0.out); (case side3 => exact (cc_ HR475_0.out)); (case side4 => exact HC475_0.out); rintro e w' ⟨rfl, ⟨nd, rfl⟩⟩))
              go_roundg k2
              case measure => have := HK1.out; have := HK2.out; omega
              case rel => exact ⟨(x10_2), (wrap64 (x29_2 + 1)), (fs_), H', ⟨by have := HK1.out; have := HK2.out; omega⟩, ⟨ks_ HO_6.out⟩, ⟨ks_ HO_7.out⟩, ⟨kr_ HO_10.out⟩, ⟨ks_ HO_20.out⟩, ⟨ks_ HO_27.out⟩, ⟨kr_ HO_X9.out⟩, ⟨bl_ HB.out⟩⟩
           ·rw [if_neg c14] at H
            exact absurd H (by simp)
          ·rw [if_neg c13] at H
           exact absurd H (by simp)
         ·rw [if_neg c12] at H
          have c12b0 : decide (x29_2 < (t471.length : Int)) = false := decide_eq_false c12; clear c12
          by_cases c20 : x7_1.length < 5864062014805
          ·rw [if_pos c20] at H
           have LMc20 := Aside0.mk c20; clear c20; obtain ⟨y480, hy480⟩ : ∃ y_ : List (List Int), y_ = (x7_1 ++ [x10_2]) := ⟨_, rfl⟩; replace H : (spec_TrianglesBeside.l0 k2 t471 y480 t471 (t471.length : Int) (wrap64 (x22_1 + 1))) = some (r1, r2) := rh_ hy480 H; have Ny480 := Aside0.mk hy480; clear hy480; have H' := Aside0.mk H; clear H; obtain ⟨Ao22, co22, eo22⟩ := Kd.R_slice HO_10.out; subst eo22
           go_wp2_with (first | ((with_reducible refine gate_builtin (b := .append) (xs := #[.tmp 48, .tmp 50]) rfl ?_); at_builtin; refine Kd.S_append (Kd.slice 3 (Kd.int .i64)) (w0 := w) w.heap.size rfl (.tmp 48) (.tmp 50) 30 27 (.slice none 0 0) 24 rfl Tryz.underlying30 info27 rfl (by decide) (by omega) u7 x7_1 x10_2 [.slice Ao22 x10_2.length co22] (fun k_ => some k_ ≠ (.slice (some ad474) t471.length co8 : Value).ownBlock ∧ some k_ ≠ (.slice (some ad474) t471.length co8 : Value).ownBlock ∧ some k_ ≠ (.slice (some ad474) t471.length co8 : Value).ownBlock) (fun k_ => some k_ = (.slice Ao22 x10_2.length co22 : Value).ownBlock) rfl rfl ?aP (fun k_ hk_ => ((Kd.R_mono (ok' := fun k_ => ((fun k_ => some k_ ≠ (.slice (some ad474) t471.length co8 : Value).ownBlock ∧ some k_ ≠ (.slice (some ad474) t471.length co8 : Value).ownBlock ∧ some k_ ≠ (.slice (some ad474) t471.length co8 : Value).ownBlock)) k_ ∧ some k_ ≠ (u7 : Value).ownBlock) (Kd.R_apart' (Kd.R_apart' (Kd.R_apart' (Kd.R_apart' (HO_10.out) (Kd.S_typed HO_6.out) (by decide)) (Kd.S_typed HO_20.out) (by decide)) (Kd.S_typed HO_27.out) (by decide)) (Kd.S_typed HO_7.out) (by decide)) (fun k_ hk => ⟨⟨hk.1.1.1.2, ⟨hk.1.1.2, hk.1.2⟩⟩, hk.2⟩))).1 k_ hk_.symm) ?aF ?aO ?aB ?aS ?aL ?_; (case aP => exact Kd.M_row (Kd.R_mono (Kd.R_tight rfl (Kd.R_mono (ok' := fun k_ => ((fun k_ => some k_ ≠ (.slice (some ad474) t471.length co8 : Value).ownBlock ∧ some k_ ≠ (.slice (some ad474) t471.length co8 : Value).ownBlock ∧ some k_ ≠ (.slice (some ad474) t471.length co8 : Value).ownBlock)) k_ ∧ some k_ ≠ (u7 : Value).ownBlock) (Kd.R_apart' (Kd.R_apart' (Kd.R_apart' (Kd.R_apart' (HO_10.out) (Kd.S_typed HO_6.out) (by decide)) (Kd.S_typed HO_20.out) (by decide)) (Kd.S_typed HO_27.out) (by decide)) (Kd.S_typed HO_7.out) (by decide)) (fun k_ hk => ⟨⟨hk.1.1.1.2, ⟨hk.1.1.2, hk.1.2⟩⟩, hk.2⟩))) (fun _ h_ => h_))); (case aB => exact (bl_ HB.out)); (case aF => exact (fun k_ hk => ⟨Kd.fresh' (Kd.S_lt (ks_ HO_6.out)) k_ hk, Kd.fresh' (Kd.S_lt (ks_ HO_20.out)) k_ hk, Kd.fresh' (Kd.S_lt (ks_ HO_27.out)) k_ hk⟩)); (case aO => exact (by (with_reducible repeat (first | apply Kd.S_alloc | apply Kd.S_drewN | apply Kd.S_drew)); exact Kd.S_mono HO_7.out (fun k_ hk => ⟨⟨hk.1, ⟨hk.2.2.1, hk.2.2.2⟩⟩, fun e_ => hk.2.1 e_⟩))); (case aS => exact (below_size (bl_ HB.out))); (case aL => have := LMc20.out; omega); intro v481 w21 ho hb hg hat; rw [← Ny480.out] at ho; replace HO_6 := Aside0.mk (Kd.S_after (ok := (fun k_ => some k_ ≠ (.slice Ao22 x10_2.length co22 : Value).ownBlock)) (by (with_reducible repeat (first | apply Kd.S_alloc | apply Kd.S_drewN | apply Kd.S_drew)); exact Kd.S_mono HO_6.out (fun _ hk => ⟨hk.2, hk.1⟩)) hg hat); replace HO_20 := Aside0.mk (Kd.S_after (ok := (fun k_ => some k_ ≠ (.slice Ao22 x10_2.length co22 : Value).ownBlock)) (by (with_reducible repeat (first | apply Kd.S_alloc | apply Kd.S_drewN | apply Kd.S_drew)); exact Kd.S_mono HO_20.out (fun _ hk => ⟨hk.2, hk.1⟩)) hg hat); replace HO_27 := Aside0.mk (Kd.S_after (ok := (fun k_ => some k_ ≠ (.slice Ao22 x10_2.length co22 : Value).ownBlock)) (by (with_reducible repeat (first | apply Kd.S_alloc | apply Kd.S_drewN | apply Kd.S_drew)); exact Kd.S_mono HO_27.out (fun _ hk => ⟨hk.2, hk.1⟩)) hg hat); replace HB := Aside0.mk (hb); have HO482 := Aside0.mk (ho); clear HO_10 HO_7 ho hb hg hat))
           go_roundg k2
           case measure => have := HK1.out; have := HK2.out; omega
           case rel => exact ⟨(y480), (wrap64 (x22_1 + 1)), (fs_), H', ⟨by have := HK1.out; have := HK2.out; omega⟩, ⟨by (with_reducible repeat (first | apply Kd.S_alloc | apply Kd.S_drewN | apply Kd.S_drew)); exact Kd.S_mono HO_6.out (fun _ hk => hk.2)⟩, ⟨by (with_reducible repeat (first | apply Kd.S_alloc | apply Kd.S_drewN | apply Kd.S_drew)); exact Kd.S_mono HO482.out (fun _ hk => ⟨hk.1, hk.2.1⟩)⟩, ⟨by (with_reducible repeat (first | apply Kd.S_alloc | apply Kd.S_drewN | apply Kd.S_drew)); exact Kd.S_mono HO_20.out (fun _ hk => hk.2)⟩, ⟨bl_ HB.out⟩⟩
          ·rw [if_neg c20] at H
           exact absurd H (by simp)
      ·rw [if_neg c11] at H
       exact absurd H (by simp)
     ·rw [if_neg c10] at H
      exact absurd H (by simp)
    ·rw [if_neg c9] at H
     have c9b0 : decide (x22_1 < (t471.length : Int)) = false := decide_eq_false c9; clear c9
     simp only [Option.some.injEq, Prod.mk.injEq] at H
     obtain ⟨rfl, rfl⟩ := H
     go_wp2
     go_ret2
     exact ⟨_, by first | rfl | (simp [errW_none, errW_some] <;> rfl) | (simp [*, errW_none, errW_some] <;> rfl), by (with_reducible repeat (first | apply Kd.S_alloc | apply Kd.S_drewN | apply Kd.S_drew)); exact Kd.S_mono HO_7.out (fun _ hk => trivial), bl_ HB.out⟩
 ·replace c4 := Bool.eq_false_iff.mpr c4
  subst c4; rw [if_neg (show ¬ (false = true) by decide)] at H
  simp only [Option.some.injEq, Prod.mk.injEq] at H
  obtain ⟨rfl, rfl⟩ := H
  go_enter Tryz.func13, Tryz.ntmps13
  go_wp2_with (first | ((with_reducible refine gate_callee (f := 34) rfl ?_); refine gl_ (some 15) Tryz.func34 #[.int .i64 a0, .slice A1 l1.length c1] rfl ?_; (with_reducible refine (spec_poGood.calls k a0 _ _ l1 false _ ?side1 ?side2 A3.out).mono ?_); (case side1 => exact cc_ HR1.out); (case side2 => exact HC1.out); rintro e w23 ⟨rfl, hb⟩; refine ⟨_, rfl, ?_⟩; replace HB := Aside0.mk (below_step (bl_ HB.out) hb); (try clear hb); (try clear hb2); (try clear hk); (try clear hi)))
  go_ret2
  exact ⟨_, by first | rfl | (simp [errW_none, errW_some] <;> rfl) | (simp [*, errW_none, errW_some] <;> rfl), by first | exact Kd.S_nil _ _ _ _ _ | exact Kd.N_nil _ _ _ _ _ | exact Kd.V_nil _ _ _ _ _ | exact Kd.Q_nil _ _ _ _ _ | exact Kd.R_nil _ _ _ _ _, bl_ HB.out⟩
def spec_poSame.l0 : Nat → List (S46) → List (S46) → Int → Int → Option (Bool)
 | 0, _, _, _, _ => none
 | k + 1, x0, x1, x12, x13 => if x13 < x12 then (if 0 ≤ x13 then (if x13 < (x0.length : Int) then (if x13 < (x1.length : Int) then (if (!(((rd_T46 x0 x13).f0) == ((rd_T46 x1 x13).f0)) || (!(((rd_T46 x0 x13).f1) == ((rd_T46 x1 x13).f1)))) = true then (some false) else (spec_poSame.l0 k x0 x1 x12 (wrap64 (x13 + 1)))) else (none)) else (none)) else (none)) else (some true)
def spec_poSame.f (k : Nat) (l0 : List (S46)) (l1 : List (S46)) : Option (Bool) := if (l0.length : Int) = (l1.length : Int) then (spec_poSame.l0 k l0 l1 (l0.length : Int) 0) else (some false)
set_option maxHeartbeats 8000000 in
set_option maxRecDepth 100000 in
theorem spec_poSame.calls (k : Nat) (A0 : Option Addr) (c0 : Nat) (l0 : List (S46)) (A1 : Option Addr) (c1 : Nat) (l1 : List (S46)) (r : Bool) (w : World) (hr0 : Kd.C k46 w A0 l0.length l0) (hc0 : l0.length ≤ c0) (hr1 : Kd.C k46 w A1 l1.length l1) (hc1 : l1.length ≤ c1) (h : spec_poSame.f k l0 l1 = some r) :
  Calls Tryz.prog 42 #[.slice A0 l0.length c0, .slice A1 l1.length c1] w fun e w' => e = .returned (.bool r) ∧ Drawn0 w w' := by
 have hu46 := Tryz.underlying46; have HR0 := Aside0.mk hr0; have HC0 := Aside0.mk hc0; clear hr0 hc0; have HR1 := Aside0.mk hr1; have HC1 := Aside0.mk hc1; clear hr1 hc1; have H : (if (l0.length : Int) = (l1.length : Int) then (spec_poSame.l0 k l0 l1 (l0.length : Int) 0) else (some false)) = some r := h
 clear h
 by_cases c3 : (l0.length : Int) = (l1.length : Int)
 ·rw [if_pos c3] at H
  have c3b0 : ((l0.length : Int) == (l1.length : Int)) = true := beq_iff_eq.mpr c3; have c3b1 : ((l0.length : Int) != (l1.length : Int)) = false := bne_eq_false_iff_eq.mpr c3; have c3b2 : (l0.length == l1.length) = true := by first | simpa using c3 | (simp at c3 ⊢; omega)
  clear c3; have H' := Aside0.mk H; clear H
  go_enter Tryz.func42, Tryz.ntmps42
  go_wp2
  repeat (go_quiet (fail); try go_wp2)
  go_loopg [13] k (fun kq v13 w' => ∃ (x13_1 : Int), v13 = .int .i64 x13_1 ∧ Aside0 (spec_poSame.l0 kq l0 l1 (l0.length : Int) x13_1 = some r) ∧ Aside0 (kq ≤ k) ∧ Drawn0 w w')
  case atStart => exact ⟨(0), (fs_), H', ⟨Nat.le_refl _⟩, dr_⟩
  case round =>
   clear H'
   try clear c1
   try clear p2
   try clear c3
   try clear c3b0
   try clear c3b1
   try clear c3b2
   obtain ⟨x13_1, rfl, HA, HK1, ⟨m1, rfl⟩⟩ := hrel
   cases gk with
   | zero => exact absurd HA.out (by simp [spec_poSame.l0])
   | succ k1 =>
    have H := HA.out; clear HA
    simp only [spec_poSame.l0] at H
    by_cases c4 : x13_1 < (l0.length : Int)
    ·rw [if_pos c4] at H
     have c4b0 : decide (x13_1 < (l0.length : Int)) = true := decide_eq_true c4; clear c4
     by_cases c5 : 0 ≤ x13_1
     ·rw [if_pos c5] at H
      have c5b0 : decide (0 ≤ x13_1) = true := decide_eq_true c5; clear c5
      by_cases c6 : x13_1 < (l0.length : Int)
      ·rw [if_pos c6] at H
       have c6b0 : decide (x13_1 < (l0.length : Int)) = true := decide_eq_true c6; clear c6
       by_cases c7 : x13_1 < (l1.length : Int)
       ·rw [if_pos c7] at H
        have c7b0 : decide (x13_1 < (l1.length : Int)) = true := decide_eq_true c7; clear c7
        by_cases c8 : (!(((rd_T46 l0 x13_1).f0) == ((rd_T46 l1 x13_1).f0)) || (!(((rd_T46 l0 x13_1).f1) == ((rd_T46 l1 x13_1).f1)))) = true
        ·rw [if_pos c8] at H
         have c8b0 : (!(((rd_T46 l0 x13_1).f0) == ((rd_T46 l1 x13_1).f0)) || (!(((rd_T46 l0 x13_1).f1) == ((rd_T46 l1 x13_1).f1)))) = true := c8
         clear c8; obtain rfl := Option.some.inj H; have p512 : 0 ≤ (x13_1 : Int) := of_decide_eq_true as_; have q512 : x13_1 < (l0.length : Int) := of_decide_eq_true as_; obtain ⟨ad512, e512, hx512_0, hx512_1⟩ := at_T46 HR0.out x13_1 p512 q512
         cases e512
         replace p512 := eq_true p512; replace q512 := eq_true q512; have p513 : 0 ≤ (x13_1 : Int) := of_decide_eq_true as_; have q513 : x13_1 < (l1.length : Int) := of_decide_eq_true as_; obtain ⟨ad513, e513, hx513_0, hx513_1⟩ := at_T46 HR1.out x13_1 p513 q513
         cases e513
         replace p513 := eq_true p513; replace q513 := eq_true q513
         go_wp2
         repeat (go_quiet (fail); try go_wp2)
         go_ret
         exact ⟨fs_, dr_⟩
        ·rw [if_neg c8] at H
         have c8b0 : (!(((rd_T46 l0 x13_1).f0) == ((rd_T46 l1 x13_1).f0)) || (!(((rd_T46 l0 x13_1).f1) == ((rd_T46 l1 x13_1).f1)))) = false := by simpa using c8
         clear c8; have H' := Aside0.mk H; clear H; have p512 : 0 ≤ (x13_1 : Int) := of_decide_eq_true as_; have q512 : x13_1 < (l0.length : Int) := of_decide_eq_true as_; obtain ⟨ad512, e512, hx512_0, hx512_1⟩ := at_T46 HR0.out x13_1 p512 q512
         cases e512
         replace p512 := eq_true p512; replace q512 := eq_true q512; have p513 : 0 ≤ (x13_1 : Int) := of_decide_eq_true as_; have q513 : x13_1 < (l1.length : Int) := of_decide_eq_true as_; obtain ⟨ad513, e513, hx513_0, hx513_1⟩ := at_T46 HR1.out x13_1 p513 q513
         cases e513
         replace p513 := eq_true p513; replace q513 := eq_true q513
         go_wp2
         repeat (go_quiet (fail); try go_wp2)
         go_roundg k1
         case measure => have := HK1.out; omega
         case rel => exact ⟨(wrap64 (x13_1 + 1)), (fs_), H', ⟨by have := HK1.out; omega⟩, dr_⟩
       ·rw [if_neg c7] at H
        exact absurd H (by simp)
      ·rw [if_neg c6] at H
       exact absurd H (by simp)
     ·rw [if_neg c5] at H
      exact absurd H (by simp)
    ·rw [if_neg c4] at H
     have c4b0 : decide (x13_1 < (l0.length : Int)) = false := decide_eq_false c4; clear c4; obtain rfl := Option.some.inj H
     go_wp2
     repeat (go_quiet (fail); try go_wp2)
     go_ret
     exact ⟨fs_, dr_⟩
 ·rw [if_neg c3] at H
  have c3b0 : ((l0.length : Int) == (l1.length : Int)) = false := beq_eq_false_iff_ne.mpr c3; have c3b1 : ((l0.length : Int) != (l1.length : Int)) = true := bne_iff_ne.mpr c3; have c3b2 : (l0.length == l1.length) = false := by first | simpa using c3 | (simp at c3 ⊢; omega)
  obtain rfl := Option.some.inj H
  go_enter Tryz.func42, Tryz.ntmps42
  go_wp2
  repeat (go_quiet (fail); try go_wp2)
  go_ret
  exact ⟨fs_, dr_⟩
def spec_poMap.l0 : Nat → List Int → List (S46) → List (S46) → Int → Int → Option ((List (S46)))
 | 0, _, _, _, _, _ => none
 | k + 1, x1, x5, x10, x11, x12 => if x12 < x11 then (if 0 ≤ x12 then (if x12 < (x10.length : Int) then (if 0 ≤ ((rd_T46 x10 x12).f0) then (if ((rd_T46 x10 x12).f0) < (x1.length : Int) then (if 0 ≤ ((rd_T46 x10 x12).f1) then (if ((rd_T46 x10 x12).f1) < (x1.length : Int) then ((spec_l1Least.f (rd x1 ((rd_T46 x10 x12).f0)) (rd x1 ((rd_T46 x10 x12).f1))).bind fun t518 => ((spec_l1Most.f (rd x1 ((rd_T46 x10 x12).f0)) (rd x1 ((rd_T46 x10 x12).f1))).bind fun t519 => (if x5.length < 8796093022208 then (spec_poMap.l0 k x1 (x5 ++ [(⟨t518, t519⟩ : S46)]) x10 x11 (wrap64 (x12 + 1))) else (none)))) else (none)) else (none)) else (none)) else (none)) else (none)) else (none)) else ((spec_poSorted.f k x5).bind fun t523 => (some t523))
def spec_poMap.f (k : Nat) (l0 : List (S46)) (l1 : List Int) : Option ((List (S46))) := spec_poMap.l0 k l1 ([] : List (S46)) l0 (l0.length : Int) 0
set_option maxHeartbeats 8000000 in
set_option maxRecDepth 100000 in
theorem spec_poMap.calls (k : Nat) (A0 : Option Addr) (c0 : Nat) (l0 : List (S46)) (A1 : Option Addr) (c1 : Nat) (l1 : List Int) (r : List (S46)) (w : World) (hr0 : Kd.C k46 w A0 l0.length l0) (hc0 : l0.length ≤ c0) (hr1 : Kd.C (Kd.int .i64) w A1 l1.length l1) (hc1 : l1.length ≤ c1) (h : spec_poMap.f k l0 l1 = some r) :
  Calls Tryz.prog 68 #[.slice A0 l0.length c0, .slice A1 l1.length c1] w fun e w' => ∃ v0_ : Value, e = .returned (v0_) ∧ Kd.R k46 46 w' w.heap.size (fun _ => True) v0_ r ∧ Below w.heap.size w w' := by
 have hu46 := Tryz.underlying46; have HR0 := Aside0.mk hr0; have HC0 := Aside0.mk hc0; clear hr0 hc0; have HR1 := Aside0.mk hr1; have HC1 := Aside0.mk hc1; clear hr1 hc1; have HB := Aside0.mk (Below.refl w.heap.size w); have H : (spec_poMap.l0 k l1 ([] : List (S46)) l0 (l0.length : Int) 0) = some r := h; clear h; have H' := Aside0.mk H; clear H
 go_enter Tryz.func68, Tryz.ntmps68
 go_wp2
 repeat (go_quiet (fail); try go_wp2)
 go_loopg [5, 12] k (fun kq v5 v12 w' => ∃ (x5_1 : List (S46)) (x12_1 : Int), v12 = .int .i64 x12_1 ∧ Aside0 (spec_poMap.l0 kq l1 x5_1 l0 (l0.length : Int) x12_1 = some r) ∧ Aside0 (kq ≤ k) ∧ Aside0 (Kd.R k46 46 w' w.heap.size (fun _ => True) v5 x5_1) ∧ Aside0 (Below w.heap.size w w'))
 case atStart => exact ⟨(([] : List (S46))), (0), (fs_), H', ⟨Nat.le_refl _⟩, ⟨by first | exact Kd.R_nil _ _ _ _ _ | exact Kd.N_nil _ _ _ _ _ | exact Kd.V_nil _ _ _ _ _ | exact Kd.Q_nil _ _ _ _ _ | exact Kd.S_nil _ _ _ _ _⟩, ⟨bl_ HB.out⟩⟩
 case round =>
  clear H'
  try clear c1
  try clear p2
  obtain ⟨x5_1, x12_1, rfl, HA, HK1, HO_5, HB⟩ := hrel
  cases gk with
  | zero => exact absurd HA.out (by simp [spec_poMap.l0])
  | succ k1 =>
   have H := HA.out; clear HA
   simp only [spec_poMap.l0] at H
   by_cases c3 : x12_1 < (l0.length : Int)
   ·rw [if_pos c3] at H
    have c3b0 : decide (x12_1 < (l0.length : Int)) = true := decide_eq_true c3; clear c3
    by_cases c4 : 0 ≤ x12_1
    ·rw [if_pos c4] at H
     have c4b0 : decide (0 ≤ x12_1) = true := decide_eq_true c4; clear c4
     by_cases c5 : x12_1 < (l0.length : Int)
     ·rw [if_pos c5] at H
      have c5b0 : decide (x12_1 < (l0.length : Int)) = true := decide_eq_true c5; clear c5
      by_cases c6 : 0 ≤ ((rd_T46 l0 x12_1).f0)
      ·rw [if_pos c6] at H
       have c6b0 : decide (0 ≤ ((rd_T46 l0 x12_1).f0)) = true := decide_eq_true c6; clear c6
       by_cases c7 : ((rd_T46 l0 x12_1).f0) < (l1.length : Int)
       ·rw [if_pos c7] at H
        have c7b0 : decide (((rd_T46 l0 x12_1).f0) < (l1.length : Int)) = true := decide_eq_true c7; clear c7
        by_cases c8 : 0 ≤ ((rd_T46 l0 x12_1).f1)
        ·rw [if_pos c8] at H
         have c8b0 : decide (0 ≤ ((rd_T46 l0 x12_1).f1)) = true := decide_eq_true c8; clear c8
         by_cases c9 : ((rd_T46 l0 x12_1).f1) < (l1.length : Int)
         ·rw [if_pos c9] at H
          have c9b0 : decide (((rd_T46 l0 x12_1).f1) < (l1.length : Int)) = true := decide_eq_true c9; clear c9; replace H := Option.bind_eq_some_iff.mp H; obtain ⟨t518, A100, H⟩ := H; have A10 := Aside0.mk A100; clear A100; replace H := Option.bind_eq_some_iff.mp H; obtain ⟨t519, A110, H⟩ := H; have A11 := Aside0.mk A110; clear A110
          by_cases c12 : x5_1.length < 8796093022208
          ·rw [if_pos c12] at H
           have LMc12 := Aside0.mk c12; clear c12; obtain ⟨y520, hy520⟩ : ∃ y_ : List (S46), y_ = (x5_1 ++ [(⟨t518, t519⟩ : S46)]) := ⟨_, rfl⟩; replace H : (spec_poMap.l0 k1 l1 y520 l0 (l0.length : Int) (wrap64 (x12_1 + 1))) = some r := rh_ hy520 H; have Ny520 := Aside0.mk hy520; clear hy520; have H' := Aside0.mk H; clear H; have p514 : 0 ≤ (x12_1 : Int) := of_decide_eq_true as_; have q514 : x12_1 < (l0.length : Int) := of_decide_eq_true as_; obtain ⟨ad514, e514, hx514_0, hx514_1⟩ := at_T46 HR0.out x12_1 p514 q514
           cases e514
           replace hx514_0 := (HB.out.cell (World.block_lt_of_cell? w _ hx514_0)).trans hx514_0; replace hx514_1 := (HB.out.cell (World.block_lt_of_cell? w _ hx514_1)).trans hx514_1; replace p514 := eq_true p514; replace q514 := eq_true q514
           iterate 2 ((try go_wp2_with (first | ((with_reducible refine gate_dst (N := 7) rfl ?_); refine be_ #[.int .i64 0, .int .i64 0] 46 ?_; intro gb515 hg w13 hbox hb; replace HO_5 := Aside0.mk (Kd.R_below (Kd.R_elderB (kr_ HO_5.out) gb515 (Nat.le_of_eq hg.symm)) hb); have BK515 := Aside0.mk (hbox); have GW515 := Aside0.mk ((by rw [hg]; exact (below_size (bl_ HB.out)) : w.heap.size ≤ gb515)); have GE515 := Aside0.mk ((by rw [hg]; exact (below_size (bl_ HB.out)) : w.heap.size ≤ gb515)); replace HB := Aside0.mk (below_step (bl_ HB.out) hb); clear hb hbox hg; have hcz14_0 := cz_ BK515.out 0 (.int .i64 0); have hcz14_1 := cz_ BK515.out 1 (.int .i64 0); have hfz14_0 := blk_frozen BK515.out 0; have hfz14_1 := blk_frozen BK515.out 1; have p516 : 0 ≤ (((rd_T46 l0 x12_1).f0) : Int) := of_decide_eq_true as_; have q516 : ((rd_T46 l0 x12_1).f0) < (l1.length : Int) := of_decide_eq_true as_; obtain ⟨ad516, e516, hx516_0⟩ := Kd.at_int HR1.out ((rd_T46 l0 x12_1).f0) p516 q516; cases e516; have hn516_0 : ad516.block ≠ gb515 := Nat.ne_of_lt (Nat.lt_of_lt_of_le (by have := World.block_lt_of_cell? _ _ hx516_0; first | rwa [add_block] at this | exact this) GW515.out); have hn516_1 : ad516.block ≠ gb515 := Nat.ne_of_lt (Nat.lt_of_lt_of_le (by have := World.block_lt_of_cell? _ _ hx516_0; first | rwa [add_block] at this | exact this) GW515.out); replace hx516_0 := (HB.out.cell (World.block_lt_of_cell? w _ hx516_0)).trans hx516_0; replace hx516_0 := (cell_far (p := ⟨gb515, 0, none⟩) (by first | (rw [add_block]; exact hn516_0) | (show (Addr.add _ _).block ≠ _; rw [add_block]; exact hn516_0) | exact hn516_0) (.int .i64 ((rd_T46 l0 x12_1).f0))).trans hx516_0; replace hx516_0 := (cell_far (p := ⟨gb515, 1, none⟩) (by first | (rw [add_block]; exact hn516_1) | (show (Addr.add _ _).block ≠ _; rw [add_block]; exact hn516_1) | exact hn516_1) (.int .i64 ((rd_T46 l0 x12_1).f1))).trans hx516_0; (try have hy516_0 := fun (n_ : Nat) => (show ((((w13.drewN n_).setCell ⟨gb515, 0, none⟩ (.int .i64 ((rd_T46 l0 x12_1).f0))).setCell ⟨gb515, 1, none⟩ (.int .i64 ((rd_T46 l0 x12_1).f1)))).cell? _ = some _ from hx516_0)); clear hn516_0 hn516_1; replace p516 := eq_true p516; replace q516 := eq_true q516; have p517 : 0 ≤ (((rd_T46 l0 x12_1).f1) : Int) := of_decide_eq_true as_; have q517 : ((rd_T46 l0 x12_1).f1) < (l1.length : Int) := of_decide_eq_true as_; obtain ⟨ad517, e517, hx517_0⟩ := Kd.at_int HR1.out ((rd_T46 l0 x12_1).f1) p517 q517; obtain rfl : ad516 = ad517 := (by injection e517); have hn517_0 : ad516.block ≠ gb515 := Nat.ne_of_lt (Nat.lt_of_lt_of_le (by have := World.block_lt_of_cell? _ _ hx517_0; first | rwa [add_block] at this | exact this) GW515.out); have hn517_1 : ad516.block ≠ gb515 := Nat.ne_of_lt (Nat.lt_of_lt_of_le (by have := World.block_lt_of_cell? _ _ hx517_0; first | rwa [add_block] at this | exact this) GW515.out); replace hx517_0 := (HB.out.cell (World.block_lt_of_cell? w _ hx517_0)).trans hx517_0; replace hx517_0 := (cell_far (p := ⟨gb515, 0, none⟩) (by first | (rw [add_block]; exact hn517_0) | (show (Addr.add _ _).block ≠ _; rw [add_block]; exact hn517_0) | exact hn517_0) (.int .i64 ((rd_T46 l0 x12_1).f0))).trans hx517_0; replace hx517_0 := (cell_far (p := ⟨gb515, 1, none⟩) (by first | (rw [add_block]; exact hn517_1) | (show (Addr.add _ _).block ≠ _; rw [add_block]; exact hn517_1) | exact hn517_1) (.int .i64 ((rd_T46 l0 x12_1).f1))).trans hx517_0; (try have hy517_0 := fun (n_ : Nat) => (show ((((w13.drewN n_).setCell ⟨gb515, 0, none⟩ (.int .i64 ((rd_T46 l0 x12_1).f0))).setCell ⟨gb515, 1, none⟩ (.int .i64 ((rd_T46 l0 x12_1).f1)))).cell? _ = some _ from hx517_0)); clear hn517_0 hn517_1; replace p517 := eq_true p517; replace q517 := eq_true q517) | (go_at_call 83; (with_reducible refine (spec_l1Least.calls (rd l1 ((rd_T46 l0 x12_1).f0)) (rd l1 ((rd_T46 l0 x12_1).f1)) t518 _ A10.out).mono ?_); rintro e w' ⟨rfl, ⟨nd, rfl⟩⟩; (try first | exact ⟨rfl, _, World.drewN_drewN _ _ _⟩ | exact ⟨rfl, _, Eq.trans (World.drewN_drewN _ _ _) (congrArg (World.drewN _) (Nat.add_assoc _ _ _))⟩)) | (go_at_call 84; (with_reducible refine (spec_l1Most.calls (rd l1 ((rd_T46 l0 x12_1).f0)) (rd l1 ((rd_T46 l0 x12_1).f1)) t519 _ A11.out).mono ?_); rintro e w' ⟨rfl, ⟨nd, rfl⟩⟩; (try first | exact ⟨rfl, _, World.drewN_drewN _ _ _⟩ | exact ⟨rfl, _, Eq.trans (World.drewN_drewN _ _ _) (congrArg (World.drewN _) (Nat.add_assoc _ _ _))⟩)) | ((with_reducible refine gate_builtin (b := .append) (xs := #[.tmp 26, .tmp 34]) rfl ?_); at_builtin; refine Kd.R_append k46 (w0 := w) w.heap.size rfl (.tmp 26) (.tmp 34) 24 46 (.agg #[(.int .i64 0), (.int .i64 0)]) 16 rfl Tryz.underlying24 info46 rfl (by decide) (by omega) u5 x5_1 (⟨t518, t519⟩ : S46) [.int .i64 t518, .int .i64 t519] (fun k_ => k_ ≠ gb515) (fun _ => False) rfl (by first | (go_simp; done) | (go_simp; rfl)) ?aP (fun _ hk => hk.elim) ?aF ?aO ?aB ?aS ?aL ?_; (case aP => exact k46_mkM _ _ _ (⟨t518, t519⟩ : S46)); (case aB => exact (bs_ HB.out GE515.out)); (case aF => exact (fun k_ hk => Kd.freshB (g := gb515) (o := .cells #[.int .i64 ((rd_T46 l0 x12_1).f0), .int .i64 ((rd_T46 l0 x12_1).f1)] 46 (0, 0)) (by (with_reducible repeat (first | refine blk_drewN ?_ _ | refine blk_drew ?_ | refine blk_alloc ?_ _)); refine blk_put (cs := #[.int .i64 ((rd_T46 l0 x12_1).f0), .int .i64 0]) ?_ 1 _ rfl; (with_reducible repeat (first | refine blk_drewN ?_ _ | refine blk_drew ?_ | refine blk_alloc ?_ _)); refine blk_put (cs := #[.int .i64 0, .int .i64 0]) ?_ 0 _ rfl; (with_reducible repeat (first | refine blk_drewN ?_ _ | refine blk_drew ?_ | refine blk_alloc ?_ _)); exact BK515.out) k_ hk)); (case aO => exact (by (with_reducible repeat (first | apply Kd.R_alloc | apply Kd.R_drewN | apply Kd.R_drew)); exact Kd.R_mono (Kd.R_far (p := ⟨gb515, 1, none⟩) (Kd.R_far (p := ⟨gb515, 0, none⟩) (Kd.R_mono HO_5.out (fun k_ hk => (⟨hk, hk.2⟩ : _ ∧ k_ ≠ gb515))) (fun _ hk => hk.2) (.int .i64 ((rd_T46 l0 x12_1).f0))) (fun _ hk => hk.2) (.int .i64 ((rd_T46 l0 x12_1).f1))) (fun _ hk => hk.1.2))); (case aS => exact (below_size (bs_ HB.out GE515.out))); (case aL => have := LMc12.out; omega); intro v521 w15 ho hb hg hat; rw [← Ny520.out] at ho; replace BK515 := Aside0.mk (blk_grown (g := gb515) (o := .cells #[.int .i64 ((rd_T46 l0 x12_1).f0), .int .i64 ((rd_T46 l0 x12_1).f1)] 46 (0, 0)) (by (with_reducible repeat (first | refine blk_drewN ?_ _ | refine blk_drew ?_ | refine blk_alloc ?_ _)); refine blk_put (cs := #[.int .i64 ((rd_T46 l0 x12_1).f0), .int .i64 0]) ?_ 1 _ rfl; (with_reducible repeat (first | refine blk_drewN ?_ _ | refine blk_drew ?_ | refine blk_alloc ?_ _)); refine blk_put (cs := #[.int .i64 0, .int .i64 0]) ?_ 0 _ rfl; (with_reducible repeat (first | refine blk_drewN ?_ _ | refine blk_drew ?_ | refine blk_alloc ?_ _)); exact BK515.out) hg (Kd.R_away HO_5.out (fun _ hk => hk.2))); replace HB := Aside0.mk (hb); have HO522 := Aside0.mk (ho); clear HO_5 ho hb hg hat))); try go_quiet (first | (go_at_call 83; (with_reducible refine (spec_l1Least.calls (rd l1 ((rd_T46 l0 x12_1).f0)) (rd l1 ((rd_T46 l0 x12_1).f1)) t518 _ A10.out).mono ?_); rintro e w' ⟨rfl, ⟨nd, rfl⟩⟩; (try first | exact ⟨rfl, _, World.drewN_drewN _ _ _⟩ | exact ⟨rfl, _, Eq.trans (World.drewN_drewN _ _ _) (congrArg (World.drewN _) (Nat.add_assoc _ _ _))⟩)) | (go_at_call 84; (with_reducible refine (spec_l1Most.calls (rd l1 ((rd_T46 l0 x12_1).f0)) (rd l1 ((rd_T46 l0 x12_1).f1)) t519 _ A11.out).mono ?_); rintro e w' ⟨rfl, ⟨nd, rfl⟩⟩; (try first | exact ⟨rfl, _, World.drewN_drewN _ _ _⟩ | exact ⟨rfl, _, Eq.trans (World.drewN_drewN _ _ _) (congrArg (World.drewN _) (Nat.add_assoc _ _ _))⟩))))
           go_roundg k1
           case measure => have := HK1.out; omega
           case rel => exact ⟨(y520), (wrap64 (x12_1 + 1)), (fs_), H', ⟨by have := HK1.out; omega⟩, ⟨by (with_reducible repeat (first | apply Kd.R_alloc | apply Kd.R_drewN | apply Kd.R_drew)); exact Kd.R_mono HO522.out (fun _ hk => trivial)⟩, ⟨bs_ HB.out GE515.out⟩⟩
          ·rw [if_neg c12] at H
           exact absurd H (by simp)
         ·rw [if_neg c9] at H
          exact absurd H (by simp)
        ·rw [if_neg c8] at H
         exact absurd H (by simp)
       ·rw [if_neg c7] at H
        exact absurd H (by simp)
      ·rw [if_neg c6] at H
       exact absurd H (by simp)
     ·rw [if_neg c5] at H
      exact absurd H (by simp)
    ·rw [if_neg c4] at H
     exact absurd H (by simp)
   ·rw [if_neg c3] at H
    have c3b0 : decide (x12_1 < (l0.length : Int)) = false := decide_eq_false c3; clear c3; replace H := Option.bind_eq_some_iff.mp H; obtain ⟨t523, A160, H⟩ := H; have A16 := Aside0.mk A160; clear A160; obtain rfl := Option.some.inj H; obtain ⟨Ao17, co17, eo17⟩ := Kd.R_slice HO_5.out; subst eo17
    iterate 2 ((try go_wp2_with (first | (go_at_call 85; (with_reducible refine (spec_poSorted.calls k1 _ _ x5_1 t523 _ ?side1 ?side2 A16.out).mono ?_); (case side1 => exact cc_ (Kd.R_reads' HO_5.out).2.2); (case side2 => exact (Kd.R_reads' HO_5.out).2.1); rintro e w18 ⟨v524, rfl, ho0, hb⟩; have HO525 := Aside0.mk (Kd.R_lower (Kd.R_new' ho0 (Kd.R_lt (kr_ HO_5.out))) (below_size (bl_ HB.out))); replace HO_5 := Aside0.mk (Kd.R_elder' (kr_ HO_5.out) (Kd.R_base ho0) hb); replace HB := Aside0.mk (below_step (bl_ HB.out) hb); (try clear hb); (try clear hb2); (try clear hk); (try clear hi); (try clear ho0)))); try go_quiet (first | (go_at_call 85; (with_reducible refine (spec_poSorted.calls k1 _ _ x5_1 t523 _ ?side1 ?side2 A16.out).mono ?_); (case side1 => exact cc_ (Kd.R_reads' HO_5.out).2.2); (case side2 => exact (Kd.R_reads' HO_5.out).2.1); rintro e w18 ⟨v524, rfl, ho0, hb⟩; have HO525 := Aside0.mk (Kd.R_lower (Kd.R_new' ho0 (Kd.R_lt (kr_ HO_5.out))) (below_size (bl_ HB.out))); replace HO_5 := Aside0.mk (Kd.R_elder' (kr_ HO_5.out) (Kd.R_base ho0) hb); replace HB := Aside0.mk (below_step (bl_ HB.out) hb); (try clear hb); (try clear hb2); (try clear hk); (try clear hi); (try clear ho0))))
    go_ret
    exact ⟨_, by first | rfl | (simp [errW_none, errW_some] <;> rfl) | (simp [*, errW_none, errW_some] <;> rfl), by (with_reducible repeat (first | apply Kd.R_alloc | apply Kd.R_drewN | apply Kd.R_drew)); exact Kd.R_mono HO525.out (fun _ hk => trivial), bl_ HB.out⟩
def spec_poTurn.l0 : Nat → Int → List (S46) → Int → List Int → Int → Option ((List (S46)))
 | 0, _, _, _, _, _ => none
 | k + 1, x0, x1, x2, x7, x8 => if x8 < x0 then (if x0 = 0 then (none) else (if x7.length < 17592186044416 then (spec_poTurn.l0 k x0 x1 x2 (x7 ++ [Int.tmod (wrap64 (x8 + x2)) x0]) (wrap64 (x8 + 1))) else (none))) else ((spec_poMap.f k x1 x7).bind fun t529 => (some t529))
def spec_poTurn.f (k : Nat) (a0 : Int) (l1 : List (S46)) (a2 : Int) : Option ((List (S46))) := spec_poTurn.l0 k a0 l1 a2 ([] : List Int) 0
set_option maxHeartbeats 8000000 in
set_option maxRecDepth 100000 in
theorem spec_poTurn.calls (k : Nat) (a0 : Int) (A1 : Option Addr) (c1 : Nat) (l1 : List (S46)) (a2 : Int) (r : List (S46)) (w : World) (hr1 : Kd.C k46 w A1 l1.length l1) (hc1 : l1.length ≤ c1) (h : spec_poTurn.f k a0 l1 a2 = some r) :
  Calls Tryz.prog 43 #[.int .i64 a0, .slice A1 l1.length c1, .int .i64 a2] w fun e w' => ∃ v0_ : Value, e = .returned (v0_) ∧ Kd.R k46 46 w' w.heap.size (fun _ => True) v0_ r ∧ Below w.heap.size w w' := by
 have HR1 := Aside0.mk hr1; have HC1 := Aside0.mk hc1; clear hr1 hc1; have HB := Aside0.mk (Below.refl w.heap.size w); have H : (spec_poTurn.l0 k a0 l1 a2 ([] : List Int) 0) = some r := h; clear h; have H' := Aside0.mk H; clear H
 go_enter Tryz.func43, Tryz.ntmps43
 go_wp2
 go_loopg [7, 8] k (fun kq v7 v8 w' => ∃ (x7_1 : List Int) (x8_1 : Int), v8 = .int .i64 x8_1 ∧ Aside0 (spec_poTurn.l0 kq a0 l1 a2 x7_1 x8_1 = some r) ∧ Aside0 (kq ≤ k) ∧ Aside0 (Kd.R (Kd.int .i64) 3 w' w.heap.size (fun _ => True) v7 x7_1) ∧ Aside0 (Below w.heap.size w w'))
 case atStart => exact ⟨(([] : List Int)), (0), (fs_), H', ⟨Nat.le_refl _⟩, ⟨by first | exact Kd.R_nil _ _ _ _ _ | exact Kd.N_nil _ _ _ _ _ | exact Kd.V_nil _ _ _ _ _ | exact Kd.Q_nil _ _ _ _ _ | exact Kd.S_nil _ _ _ _ _⟩, ⟨bl_ HB.out⟩⟩
 case round =>
  clear H'
  try clear c1
  try clear p2
  obtain ⟨x7_1, x8_1, rfl, HA, HK1, HO_7, HB⟩ := hrel
  cases gk with
  | zero => exact absurd HA.out (by simp [spec_poTurn.l0])
  | succ k1 =>
   have H := HA.out; clear HA
   simp only [spec_poTurn.l0] at H
   by_cases c4 : x8_1 < a0
   ·rw [if_pos c4] at H
    have c4b0 : decide (x8_1 < a0) = true := decide_eq_true c4; clear c4
    by_cases c5 : a0 = 0
    ·rw [if_pos c5] at H
     exact absurd H (by simp)
    ·rw [if_neg c5] at H
     have c5b0 : (a0 == 0) = false := beq_eq_false_iff_ne.mpr c5; have c5b1 : (a0 != 0) = true := bne_iff_ne.mpr c5
     by_cases c6 : x7_1.length < 17592186044416
     ·rw [if_pos c6] at H
      have LMc6 := Aside0.mk c6; clear c6; obtain ⟨y526, hy526⟩ : ∃ y_ : List Int, y_ = (x7_1 ++ [Int.tmod (wrap64 (x8_1 + a2)) a0]) := ⟨_, rfl⟩; replace H : (spec_poTurn.l0 k1 a0 l1 a2 y526 (wrap64 (x8_1 + 1))) = some r := rh_ hy526 H; have Ny526 := Aside0.mk hy526; clear hy526; have H' := Aside0.mk H; clear H
      go_wp2_with (first | ((with_reducible refine gate_builtin (b := .append) (xs := #[.tmp 14, .tmp 20]) rfl ?_); at_builtin; refine Kd.R_append (Kd.int .i64) (w0 := w) w.heap.size rfl (.tmp 14) (.tmp 20) 27 3 (.int .i64 0) 8 rfl Tryz.underlying27 info3 rfl (by decide) (by omega) u7 x7_1 (Int.tmod (wrap64 (x8_1 + a2)) a0) [.int .i64 (Int.tmod (wrap64 (x8_1 + a2)) a0)] (fun _ => True) (fun _ => False) rfl rfl ?aP (fun _ hk => hk.elim) ?aF ?aO ?aB ?aS ?aL ?_; (case aP => exact rfl); (case aB => exact (bl_ HB.out)); (case aF => exact (fun _ _ => trivial)); (case aO => exact (kr_ HO_7.out)); (case aS => exact (below_size (bl_ HB.out))); (case aL => have := LMc6.out; omega); intro v527 w7 ho hb hg hat; rw [← Ny526.out] at ho; replace HB := Aside0.mk (hb); have HO528 := Aside0.mk (ho); clear HO_7 ho hb hg hat))
      go_roundg k1
      case measure => have := HK1.out; omega
      case rel => exact ⟨(y526), (wrap64 (x8_1 + 1)), (fs_), H', ⟨by have := HK1.out; omega⟩, ⟨kr_ HO528.out⟩, ⟨bl_ HB.out⟩⟩
     ·rw [if_neg c6] at H
      exact absurd H (by simp)
   ·rw [if_neg c4] at H
    have c4b0 : decide (x8_1 < a0) = false := decide_eq_false c4; clear c4; replace H := Option.bind_eq_some_iff.mp H; obtain ⟨t529, A80, H⟩ := H; have A8 := Aside0.mk A80; clear A80; obtain rfl := Option.some.inj H; obtain ⟨Ao9, co9, eo9⟩ := Kd.R_slice HO_7.out; subst eo9
    go_wp2_with (first | ((with_reducible refine gate_callee (f := 68) rfl ?_); refine gl_ (some 24) Tryz.func68 #[.slice A1 l1.length c1, .slice Ao9 x7_1.length co9] rfl ?_; (with_reducible refine (spec_poMap.calls k1 _ _ l1 _ _ x7_1 t529 _ ?side1 ?side2 ?side3 ?side4 A8.out).mono ?_); (case side1 => exact cc_ (Kd.C_below HR1.out HB.out)); (case side2 => exact HC1.out); (case side3 => exact cc_ (Kd.R_reads' HO_7.out).2.2); (case side4 => exact (Kd.R_reads' HO_7.out).2.1); rintro e w10 ⟨v530, rfl, ho0, hb⟩; refine ⟨_, rfl, ?_⟩; replace HO_7 := Aside0.mk (Kd.R_below (kr_ HO_7.out) hb); have HO531 := Aside0.mk (Kd.R_lower ho0 (below_size (bl_ HB.out))); replace HB := Aside0.mk (below_step (bl_ HB.out) hb); (try clear hb); (try clear hb2); (try clear hk); (try clear hi); (try clear ho0)))
    go_ret
    exact ⟨_, by first | rfl | (simp [errW_none, errW_some] <;> rfl) | (simp [*, errW_none, errW_some] <;> rfl), by (with_reducible repeat (first | apply Kd.R_alloc | apply Kd.R_drewN | apply Kd.R_drew)); exact HO531.out, bl_ HB.out⟩
end Go.Proofs.YtobddjeefcoikaaGreat.PFnQuidditiesTell
