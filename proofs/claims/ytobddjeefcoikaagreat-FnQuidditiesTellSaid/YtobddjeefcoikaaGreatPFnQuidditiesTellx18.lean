-- Written for this claim by a program of this session (wip/tools/xprint.py over the kit's printer, wip/tools/shrink.py).
import Derived.Test.YtobddjeefcoikaaGreatPFnQuidditiesTellx0
import Derived.Test.YtobddjeefcoikaaGreatPFnQuidditiesTellx1
import Derived.Test.YtobddjeefcoikaaGreatPFnQuidditiesTellx15
import Derived.Test.YtobddjeefcoikaaGreatPFnQuidditiesTellx17
namespace Go.Proofs.YtobddjeefcoikaaGreat.PFnQuidditiesTell
open Go.RowKit Go.Proofs.YtobddjeefcoikaaGreatW.PrintWords Go.Proofs.YtobddjeefcoikaaGreatW.PrintLast Go.Proofs.YtobddjeefcoikaaGreatW.PrintMore
attribute [local go_sem] max2_int min2_int max_two min_two max_three min_three max_four min_four   -- for this text's walks alone
set_option linter.unusedVariables false
set_option linter.unusedSimpArgs false
attribute [local go_sem high] eqA46
mutual
def impl_TrianglesBeside.l0 : Nat → List (List Int) → List (List Int) → List (List Int) → Int → Int → Option ((List (List Int)) × Bool)
 | 0, _, _, _, _, _ => none
 | k + 1, x6, x7, x24, x25, x26 => if x26 < x25 then (if 0 ≤ x26 then (if x26 < (x24.length : Int) then (impl_TrianglesBeside.l1 k x6 x7 x26 (rd_L6 x24 x26) (([] : List Int)) x24 x25 x26 x6 (x6.length : Int) 0) else (none)) else (none)) else (some (x7, true))
def impl_TrianglesBeside.l1 : Nat → List (List Int) → List (List Int) → Int → List Int → List Int → List (List Int) → Int → Int → List (List Int) → Int → Int → Option ((List (List Int)) × Bool)
 | 0, _, _, _, _, _, _, _, _, _, _, _ => none
 | k + 1, x6, x7, x8, x9, x10, x24, x25, x26, x32, x33, x34 => if x34 < x33 then (if 0 ≤ x34 then (if x34 < (x32.length : Int) then (impl_TrianglesBeside.l2 k x6 x7 x8 x9 x10 x34 (rd_L6 x32 x34) 0 x24 x25 x26 x32 x33 x34 x9 (x9.length : Int) 0) else (none)) else (none)) else (if x7.length < 5864062014805 then (impl_TrianglesBeside.l0 k x6 (x7 ++ [x10]) x24 x25 (wrap64 (x26 + 1))) else (none))
def impl_TrianglesBeside.l2 : Nat → List (List Int) → List (List Int) → Int → List Int → List Int → Int → List Int → Int → List (List Int) → Int → Int → List (List Int) → Int → Int → List Int → Int → Int → Option ((List (List Int)) × Bool)
 | 0, _, _, _, _, _, _, _, _, _, _, _, _, _, _, _, _, _ => none
 | k + 1, x6, x7, x8, x9, x10, x11, x12, x13, x24, x25, x26, x32, x33, x34, x39, x40, x41 => if x41 < x40 then (if 0 ≤ x41 then (if x41 < (x39.length : Int) then ((slices_Contains_int_int.f k x12 (rd x39 x41)).bind fun t463 => (if t463 = true then (impl_TrianglesBeside.l2 k x6 x7 x8 x9 x10 x11 x12 (wrap64 (x13 + 1)) x24 x25 x26 x32 x33 x34 x39 x40 (wrap64 (x41 + 1))) else (impl_TrianglesBeside.l2 k x6 x7 x8 x9 x10 x11 x12 x13 x24 x25 x26 x32 x33 x34 x39 x40 (wrap64 (x41 + 1))))) else (none)) else (none)) else (if x8 = x11 then (impl_TrianglesBeside.l1 k x6 x7 x8 x9 x10 x24 x25 x26 x32 x33 (wrap64 (x34 + 1))) else (if x13 = 2 then (if x10.length < 17592186044416 then (impl_TrianglesBeside.l1 k x6 x7 x8 x9 (x10 ++ [x11]) x24 x25 x26 x32 x33 (wrap64 (x34 + 1))) else (none)) else (impl_TrianglesBeside.l1 k x6 x7 x8 x9 x10 x24 x25 x26 x32 x33 (wrap64 (x34 + 1)))))
end
def impl_TrianglesBeside.f (k : Nat) (a0 : Int) (l1 : List (S46)) : Option ((List (List Int)) × Bool) := (impl_IsTriangulation.f k a0 l1).bind fun t447 => (if t447 = true then ((impl_triangles.f k a0 l1).bind fun t448 => (impl_TrianglesBeside.l0 k t448 (([] : List (List Int))) t448 (t448.length : Int) 0)) else (some (([] : List (List Int)), false)))
set_option maxHeartbeats 8000000 in
set_option maxRecDepth 100000 in
theorem impl_TrianglesBeside.calls (k : Nat) (a0 : Int) (A1 : Option Addr) (c1 : Nat) (l1 : List (S46)) (r1 : List (List Int)) (r2 : Bool) (w : World) (hr1 : Kd.C k46 w A1 l1.length l1) (hc1 : l1.length ≤ c1) (h : impl_TrianglesBeside.f k a0 l1 = some (r1, r2)) :
  Calls Tryz.prog 12 #[.int .i64 a0, .slice A1 l1.length c1] w fun e w' => ∃ v0_ : Value, e = .returned (.tuple #[v0_, .bool r2]) ∧ Kd.S (Kd.slice 3 (Kd.int .i64)) 27 w' w.heap.size (fun _ => True) v0_ r1 ∧ Below w.heap.size w w' := by
 have HR1 := Aside0.mk hr1; have HC1 := Aside0.mk hc1; clear hr1 hc1; have HB := Aside0.mk (Below.refl w.heap.size w); have H : ((impl_IsTriangulation.f k a0 l1).bind fun t447 => (if t447 = true then ((impl_triangles.f k a0 l1).bind fun t448 => (impl_TrianglesBeside.l0 k t448 (([] : List (List Int))) t448 (t448.length : Int) 0)) else (some (([] : List (List Int)), false)))) = some (r1, r2) := h
 clear h; replace H := Option.bind_eq_some_iff.mp H; obtain ⟨t447, A30, H⟩ := H; have A3 := Aside0.mk A30; clear A30
 by_cases c4 : t447 = true
 ·subst c4
  rw [if_pos rfl] at H
  replace H := Option.bind_eq_some_iff.mp H; obtain ⟨t448, A50, H⟩ := H; have A5 := Aside0.mk A50; clear A50; obtain ⟨y451, hy451⟩ : ∃ y_ : List (List Int), y_ = (([] : List (List Int))) := ⟨_, rfl⟩; replace H : (impl_TrianglesBeside.l0 k t448 y451 t448 (t448.length : Int) 0) = some (r1, r2) := rh_ hy451 H; have Ny451 := Aside0.mk hy451; clear hy451; have H' := Aside0.mk H; clear H
  go_enter Tryz.func12, Tryz.ntmps12
  go_wp2_with (first | ((with_reducible refine gate_callee (f := 21) rfl ?_); refine gl_ (some 18) Tryz.func21 #[.int .i64 a0, .slice A1 l1.length c1] rfl ?_; (with_reducible refine (impl_IsTriangulation.calls k a0 _ _ l1 true _ ?side1 ?side2 A3.out).mono ?_); (case side1 => exact cc_ HR1.out); (case side2 => exact HC1.out); rintro e w6 ⟨rfl, hb⟩; refine ⟨_, rfl, ?_⟩; replace HB := Aside0.mk (below_step (bl_ HB.out) hb); (try clear hb); (try clear hb2); (try clear hk); (try clear hi)) | ((with_reducible refine gate_callee (f := 36) rfl ?_); refine gl_ (some 22) Tryz.func36 #[.int .i64 a0, .slice A1 l1.length c1] rfl ?_; (with_reducible refine (impl_triangles.calls k a0 _ _ l1 t448 _ ?side1 ?side2 A5.out).mono ?_); (case side1 => exact cc_ (Kd.C_below HR1.out HB.out)); (case side2 => exact HC1.out); rintro e w7 ⟨v449, rfl, ho0, hb⟩; refine ⟨_, rfl, ?_⟩; have HO450 := Aside0.mk (Kd.S_lower ho0 (below_size (bl_ HB.out))); replace HB := Aside0.mk (below_step (bl_ HB.out) hb); (try clear hb); (try clear hb2); (try clear hk); (try clear hi); (try clear ho0)) | ((with_reducible refine gate_dst (N := 23) rfl ?_); refine Kd.S_lit (Kd.slice 3 (Kd.int .i64)) _ 27 ?hg (N := 23) ?hd (xs := ([] : List (List Int))) (inner := []) (ok := fun _ => True) (okp := fun _ => True) ?hr ?hp (fun _ hk => hk) trivial (Below.refl _ _) (Nat.le_refl _) (by simp) ?_; (case hd => rfl); (case hg => rfl); (case hr => first | (go_simp; done) | (go_simp; rfl)); (case hp => exact (Reps.none _ _)); intro v452 w8 ho9 hb hg_ hnew_; clear hg_ hnew_; (first | rw [← Ny451.out] at ho9 | (simp only [Int.reduceToNat] at ho9; rw [← Ny451.out] at ho9)); have HO453 := Aside0.mk (Kd.S_lower (Kd.S_new' ho9 (Kd.S_lt (ks_ HO450.out))) (below_size (bl_ HB.out))); replace HO450 := Aside0.mk (Kd.S_elder' (ks_ HO450.out) (Kd.S_base ho9) hb); replace HB := Aside0.mk (below_step (bl_ HB.out) hb); clear hb ho9; obtain ⟨Ao10, co10, eo10⟩ := Kd.S_slice HO450.out; subst eo10))
  go_loopg [7, 26] k (fun kq v7 v26 w' => ∃ (x7_1 : List (List Int)) (x26_1 : Int), v26 = .int .i64 x26_1 ∧ Aside0 (impl_TrianglesBeside.l0 kq t448 x7_1 t448 (t448.length : Int) x26_1 = some (r1, r2)) ∧ Aside0 (kq ≤ k) ∧ Aside0 (Kd.S (Kd.slice 3 (Kd.int .i64)) 27 w' w.heap.size (fun k_ => some k_ ≠ (v7 : Value).ownBlock) (.slice Ao10 t448.length co10) t448) ∧ Aside0 (Kd.S (Kd.slice 3 (Kd.int .i64)) 27 w' w.heap.size (fun k_ => some k_ ≠ ((.slice Ao10 t448.length co10) : Value).ownBlock ∧ some k_ ≠ ((.slice Ao10 t448.length co10) : Value).ownBlock) v7 x7_1) ∧ Aside0 (Kd.S (Kd.slice 3 (Kd.int .i64)) 27 w' w.heap.size (fun k_ => some k_ ≠ (v7 : Value).ownBlock) (.slice Ao10 t448.length co10) t448) ∧ Aside0 (Below w.heap.size w w'))
  case atStart => exact ⟨(y451), (0), (fs_), H', ⟨Nat.le_refl _⟩, ⟨by (with_reducible repeat (first | apply Kd.S_alloc | apply Kd.S_drewN | apply Kd.S_drew)); exact Kd.S_mono HO450.out (fun _ hk => hk.2)⟩, ⟨by (with_reducible repeat (first | apply Kd.S_alloc | apply Kd.S_drewN | apply Kd.S_drew)); exact Kd.S_mono HO453.out (fun _ hk => ⟨hk.2, hk.2⟩)⟩, ⟨by (with_reducible repeat (first | apply Kd.S_alloc | apply Kd.S_drewN | apply Kd.S_drew)); exact Kd.S_mono HO450.out (fun _ hk => hk.2)⟩, ⟨bl_ HB.out⟩⟩
  case round =>
   clear H'
   try clear c1
   try clear c2
   try clear p2
   try clear c3
   try clear c4
   obtain ⟨x7_1, x26_1, rfl, HA, HK1, HO_6, HO_7, HO_24, HB⟩ := hrel
   cases gk with
   | zero => exact absurd HA.out (by simp [impl_TrianglesBeside.l0])
   | succ k1 =>
    have H := HA.out; clear HA
    simp only [impl_TrianglesBeside.l0] at H
    by_cases c11 : x26_1 < (t448.length : Int)
    ·rw [if_pos c11] at H
     have c11b0 : decide (x26_1 < (t448.length : Int)) = true := decide_eq_true c11; clear c11
     by_cases c12 : 0 ≤ x26_1
     ·rw [if_pos c12] at H
      have c12b0 : decide (0 ≤ x26_1) = true := decide_eq_true c12; clear c12
      by_cases c13 : x26_1 < (t448.length : Int)
      ·rw [if_pos c13] at H
       have c13b0 : decide (x26_1 < (t448.length : Int)) = true := decide_eq_true c13; clear c13; obtain ⟨y455, hy455⟩ : ∃ y_ : List Int, y_ = (([] : List Int)) := ⟨_, rfl⟩; replace H : (impl_TrianglesBeside.l1 k1 t448 x7_1 x26_1 (rd_L6 t448 x26_1) y455 t448 (t448.length : Int) x26_1 t448 (t448.length : Int) 0) = some (r1, r2) := rh_ hy455 H; have Ny455 := Aside0.mk hy455; clear hy455; have H' := Aside0.mk H; clear H; have p454 : 0 ≤ (x26_1 : Int) := of_decide_eq_true as_; have q454 : x26_1 < (t448.length : Int) := of_decide_eq_true as_; obtain ⟨ad454, A454_0, c454_0, e454, hx454_0, hl454_0, hi454_0⟩ := at_L6 (Kd.S_reads' HO_24.out).2.2 x26_1 p454 q454
       cases e454
       obtain ⟨ce454, hce454, hMe454, hcc454⟩ := Kd.S_get HO_24.out [] x26_1 p454 (by first | exact q454 | exact of_decide_eq_true as_ | (have e_ := (Kd.S_reads' HO_24.out).1; omega))
       obtain ⟨ve454_0, rfl, ge454_0⟩ := hMe454; have hv454_0 := hcc454 0 _ rfl; rw [Nat.add_zero, show ((Kd.slice 3 (Kd.int .i64))).sz = 1 from rfl, Nat.mul_one] at hv454_0
       replace hv454_0 := Option.some.inj (hv454_0.symm.trans hx454_0); rw [hv454_0] at ge454_0
       have HL454_0 := Aside0.mk (show Kd.R (Kd.int .i64) 3 _ _ _ _ (rd_L6 t448 x26_1) from ge454_0)
       clear hv454_0 ge454_0; clear hcc454 hce454; have HR454_0 := Aside0.mk hi454_0; have HC454_0 := Aside0.mk hl454_0; clear hi454_0 hl454_0; replace p454 := eq_true p454; replace q454 := eq_true q454
       go_wp2_with (first | ((with_reducible refine gate_dst (N := 31) rfl ?_); refine Kd.R_lit (Kd.int .i64) _ 3 ?hg (N := 31) ?hd (xs := ([] : List Int)) (inner := []) (ok := fun _ => True) (okp := fun _ => True) ?hr ?hp (fun _ hk => hk) trivial (Below.refl _ _) (Nat.le_refl _) (by simp) ?_; (case hd => rfl); (case hg => rfl); (case hr => first | (go_simp; done) | (go_simp; rfl)); (case hp => exact (Reps.none _ _)); intro v456 w14 ho15 hb hg_ hnew_; clear hg_ hnew_; (first | rw [← Ny455.out] at ho15 | (simp only [Int.reduceToNat] at ho15; rw [← Ny455.out] at ho15)); replace HO_6 := Aside0.mk (Kd.S_elder' (ks_ HO_6.out) (Kd.R_base ho15) hb); replace HO_7 := Aside0.mk (Kd.S_elder' (ks_ HO_7.out) (Kd.R_base ho15) hb); replace HO_24 := Aside0.mk (Kd.S_elder' (ks_ HO_24.out) (Kd.R_base ho15) hb); have HO457 := Aside0.mk (Kd.R_lower (Kd.R_new' ho15 (Kd.R_lt (kr_ HL454_0.out))) (below_size (bl_ HB.out))); replace HL454_0 := Aside0.mk (Kd.R_elder' (kr_ HL454_0.out) (Kd.R_base ho15) hb); replace HR454_0 := Aside0.mk (Kd.C_below (cc_ HR454_0.out) hb); replace HB := Aside0.mk (below_step (bl_ HB.out) hb); clear hb ho15))
       go_loopg [10, 34] k1 (fun kq v10 v34 w' => ∃ (x10_2 : List Int) (x34_2 : Int), v34 = .int .i64 x34_2 ∧ Aside0 (impl_TrianglesBeside.l1 kq t448 x7_1 x26_1 (rd_L6 t448 x26_1) x10_2 t448 (t448.length : Int) x26_1 t448 (t448.length : Int) x34_2 = some (r1, r2)) ∧ Aside0 (kq ≤ k1) ∧ Aside0 (Kd.S (Kd.slice 3 (Kd.int .i64)) 27 w' w.heap.size (fun k_ => some k_ ≠ (u7 : Value).ownBlock ∧ some k_ ≠ (v10 : Value).ownBlock) (.slice (some ad454) t448.length co10) t448) ∧ Aside0 (Kd.S (Kd.slice 3 (Kd.int .i64)) 27 w' w.heap.size (fun k_ => some k_ ≠ ((.slice (some ad454) t448.length co10) : Value).ownBlock ∧ some k_ ≠ (v10 : Value).ownBlock ∧ some k_ ≠ ((.slice (some ad454) t448.length co10) : Value).ownBlock ∧ some k_ ≠ ((.slice (some ad454) t448.length co10) : Value).ownBlock) u7 x7_1) ∧ Aside0 (Kd.R (Kd.int .i64) 3 w' w.heap.size (fun _ => True) v10 x10_2) ∧ Aside0 (Kd.S (Kd.slice 3 (Kd.int .i64)) 27 w' w.heap.size (fun k_ => some k_ ≠ (u7 : Value).ownBlock ∧ some k_ ≠ (v10 : Value).ownBlock) (.slice (some ad454) t448.length co10) t448) ∧ Aside0 (Kd.S (Kd.slice 3 (Kd.int .i64)) 27 w' w.heap.size (fun k_ => some k_ ≠ (u7 : Value).ownBlock ∧ some k_ ≠ (v10 : Value).ownBlock) (.slice (some ad454) t448.length co10) t448) ∧ Aside0 (Kd.R (Kd.int .i64) 3 w' w.heap.size (fun k_ => some k_ ≠ (u7 : Value).ownBlock ∧ some k_ ≠ (v10 : Value).ownBlock) (.slice A454_0 (rd_L6 t448 x26_1).length c454_0) (rd_L6 t448 x26_1)) ∧ Aside0 (Below w.heap.size w w'))
       case atStart => exact ⟨(y455), (0), (fs_), H', ⟨Nat.le_refl _⟩, ⟨ks_ HO_6.out⟩, ⟨by (with_reducible repeat (first | apply Kd.S_alloc | apply Kd.S_drewN | apply Kd.S_drew)); exact Kd.S_mono HO_7.out (fun _ hk => ⟨hk.1.1, ⟨hk.2, ⟨hk.1.2, hk.1.1⟩⟩⟩)⟩, ⟨by (with_reducible repeat (first | apply Kd.R_alloc | apply Kd.R_drewN | apply Kd.R_drew)); exact Kd.R_mono HO457.out (fun _ hk => trivial)⟩, ⟨ks_ HO_24.out⟩, ⟨ks_ HO_6.out⟩, ⟨by (with_reducible repeat (first | apply Kd.R_alloc | apply Kd.R_drewN | apply Kd.R_drew)); first | exact Kd.R_mono HL454_0.out (fun _ hk => ⟨hk.1.1, hk.2⟩) | exact Kd.R_mono HL454_0.out (fun _ hk => ⟨hk.1, (by simp [Value.ownBlock])⟩)⟩, ⟨bl_ HB.out⟩⟩
       case round =>
        clear H'
        try clear c1
        try clear c2
        try clear p2
        try clear c3
        try clear c4
        try clear p4
        try clear q4
        try clear hx4
        try clear c11
        try clear c11b0
        try clear c12
        try clear c12b0
        try clear c13
        try clear c13b0
        try clear hx454_0
        try clear p2
        try clear p454
        try clear q454
        obtain ⟨x10_2, x34_2, rfl, HA, HK2, HO_6, HO_7, HO_10, HO_24, HO_32, HO_X9, HB⟩ := hrel
        cases gk with
        | zero => exact absurd HA.out (by simp [impl_TrianglesBeside.l1])
        | succ k2 =>
         have H := HA.out; clear HA
         simp only [impl_TrianglesBeside.l1] at H
         by_cases c16 : x34_2 < (t448.length : Int)
         ·rw [if_pos c16] at H
          have c16b0 : decide (x34_2 < (t448.length : Int)) = true := decide_eq_true c16; clear c16
          by_cases c17 : 0 ≤ x34_2
          ·rw [if_pos c17] at H
           have c17b0 : decide (0 ≤ x34_2) = true := decide_eq_true c17; clear c17
           by_cases c18 : x34_2 < (t448.length : Int)
           ·rw [if_pos c18] at H
            have c18b0 : decide (x34_2 < (t448.length : Int)) = true := decide_eq_true c18; clear c18; have H' := Aside0.mk H; clear H; have p461 : 0 ≤ (x34_2 : Int) := of_decide_eq_true as_; have q461 : x34_2 < (t448.length : Int) := of_decide_eq_true as_; obtain ⟨ad461, A461_0, c461_0, e461, hx461_0, hl461_0, hi461_0⟩ := at_L6 (Kd.S_reads' HO_32.out).2.2 x34_2 p461 q461; obtain rfl : ad454 = ad461 := (by injection e461)
            obtain ⟨ce461, hce461, hMe461, hcc461⟩ := Kd.S_get HO_32.out [] x34_2 p461 (by first | exact q461 | exact of_decide_eq_true as_ | (have e_ := (Kd.S_reads' HO_32.out).1; omega))
            obtain ⟨ve461_0, rfl, ge461_0⟩ := hMe461; have hv461_0 := hcc461 0 _ rfl; rw [Nat.add_zero, show ((Kd.slice 3 (Kd.int .i64))).sz = 1 from rfl, Nat.mul_one] at hv461_0
            replace hv461_0 := Option.some.inj (hv461_0.symm.trans hx461_0); rw [hv461_0] at ge461_0
            have HL461_0 := Aside0.mk (show Kd.R (Kd.int .i64) 3 _ _ _ _ (rd_L6 t448 x34_2) from ge461_0)
            clear hv461_0 ge461_0; clear hcc461 hce461; have HR461_0 := Aside0.mk hi461_0; have HC461_0 := Aside0.mk hl461_0; clear hi461_0 hl461_0; replace p461 := eq_true p461; replace q461 := eq_true q461
            go_wp2
            go_loopg [13, 41] k2 (fun kq v13 v41 w' => ∃ (x13_3 : Int) (x41_3 : Int), v13 = .int .i64 x13_3 ∧ v41 = .int .i64 x41_3 ∧ Aside0 (impl_TrianglesBeside.l2 kq t448 x7_1 x26_1 (rd_L6 t448 x26_1) x10_2 x34_2 (rd_L6 t448 x34_2) x13_3 t448 (t448.length : Int) x26_1 t448 (t448.length : Int) x34_2 (rd_L6 t448 x26_1) ((rd_L6 t448 x26_1).length : Int) x41_3 = some (r1, r2)) ∧ Aside0 (kq ≤ k2) ∧ Aside0 (Kd.S (Kd.slice 3 (Kd.int .i64)) 27 w' w.heap.size (fun k_ => some k_ ≠ (u7 : Value).ownBlock ∧ some k_ ≠ (u10 : Value).ownBlock) (.slice (some ad454) t448.length co10) t448) ∧ Aside0 (Kd.S (Kd.slice 3 (Kd.int .i64)) 27 w' w.heap.size (fun k_ => some k_ ≠ ((.slice (some ad454) t448.length co10) : Value).ownBlock ∧ some k_ ≠ (u10 : Value).ownBlock ∧ some k_ ≠ ((.slice (some ad454) t448.length co10) : Value).ownBlock ∧ some k_ ≠ ((.slice (some ad454) t448.length co10) : Value).ownBlock) u7 x7_1) ∧ Aside0 (Kd.R (Kd.int .i64) 3 w' w.heap.size (fun _ => True) u10 x10_2) ∧ Aside0 (Kd.S (Kd.slice 3 (Kd.int .i64)) 27 w' w.heap.size (fun k_ => some k_ ≠ (u7 : Value).ownBlock ∧ some k_ ≠ (u10 : Value).ownBlock) (.slice (some ad454) t448.length co10) t448) ∧ Aside0 (Kd.S (Kd.slice 3 (Kd.int .i64)) 27 w' w.heap.size (fun k_ => some k_ ≠ (u7 : Value).ownBlock ∧ some k_ ≠ (u10 : Value).ownBlock) (.slice (some ad454) t448.length co10) t448) ∧ Aside0 (Kd.C (Kd.int .i64) w' A461_0 (rd_L6 t448 x34_2).length (rd_L6 t448 x34_2)) ∧ Aside0 (Kd.R (Kd.int .i64) 3 w' w.heap.size (fun k_ => some k_ ≠ (u7 : Value).ownBlock ∧ some k_ ≠ (u10 : Value).ownBlock) (.slice A454_0 (rd_L6 t448 x26_1).length c454_0) (rd_L6 t448 x26_1)) ∧ Aside0 (Below w.heap.size w w'))
            case atStart => exact ⟨(0), (0), (fs_), (fs_), H', ⟨Nat.le_refl _⟩, ⟨ks_ HO_6.out⟩, ⟨ks_ HO_7.out⟩, ⟨kr_ HO_10.out⟩, ⟨ks_ HO_24.out⟩, ⟨ks_ HO_32.out⟩, ⟨cc_ HR461_0.out⟩, ⟨kr_ HO_X9.out⟩, ⟨bl_ HB.out⟩⟩
            case round =>
             clear H'
             try clear c1
             try clear c2
             try clear p2
             try clear c3
             try clear c4
             try clear p4
             try clear q4
             try clear hx4
             try clear c11
             try clear c11b0
             try clear c12
             try clear c12b0
             try clear c13
             try clear c13b0
             try clear c16
             try clear c16b0
             try clear c17
             try clear c17b0
             try clear c18
             try clear c18b0
             try clear hx454_0
             try clear hx461_0
             try clear p2
             try clear p4
             try clear p454
             try clear p461
             try clear q4
             try clear q454
             try clear q461
             obtain ⟨x13_3, x41_3, rfl, rfl, HA, HK3, HO_6, HO_7, HO_10, HO_24, HO_32, HR461_0, HO_X9, HB⟩ := hrel
             cases gk with
             | zero => exact absurd HA.out (by simp [impl_TrianglesBeside.l2])
             | succ k3 =>
              have H := HA.out; clear HA
              simp only [impl_TrianglesBeside.l2] at H
              by_cases c19 : x41_3 < ((rd_L6 t448 x26_1).length : Int)
              ·rw [if_pos c19] at H
               have c19b0 : decide (x41_3 < ((rd_L6 t448 x26_1).length : Int)) = true := decide_eq_true c19; clear c19
               by_cases c20 : 0 ≤ x41_3
               ·rw [if_pos c20] at H
                have c20b0 : decide (0 ≤ x41_3) = true := decide_eq_true c20; clear c20
                by_cases c21 : x41_3 < ((rd_L6 t448 x26_1).length : Int)
                ·rw [if_pos c21] at H
                 have c21b0 : decide (x41_3 < ((rd_L6 t448 x26_1).length : Int)) = true := decide_eq_true c21; clear c21; replace H := Option.bind_eq_some_iff.mp H; obtain ⟨t463, A220, H⟩ := H; have A22 := Aside0.mk A220; clear A220
                 by_cases c23 : t463 = true
                 ·subst c23
                  rw [if_pos rfl] at H
                  have H' := Aside0.mk H; clear H; have p462 : 0 ≤ (x41_3 : Int) := of_decide_eq_true as_; have q462 : x41_3 < ((rd_L6 t448 x26_1).length : Int) := of_decide_eq_true as_; obtain ⟨ad462, e462, hx462_0⟩ := Kd.at_int (Kd.R_reads' HO_X9.out).2.2 x41_3 p462 q462
                  cases e462
                  (try replace hx462_0 := (HB.out.cell (World.block_lt_of_cell? w _ hx462_0)).trans hx462_0)
                  replace p462 := eq_true p462; replace q462 := eq_true q462
                  go_wp2_with (first | ((with_reducible refine gate_callee (f := 38) rfl ?_); refine gl_ (some 47) Tryz.func38 #[.slice A461_0 (rd_L6 t448 x34_2).length c461_0, .int .i64 (rd (rd_L6 t448 x26_1) x41_3)] rfl ?_; (with_reducible refine (slices_Contains_int_int.calls k3 _ _ (rd_L6 t448 x34_2) (rd (rd_L6 t448 x26_1) x41_3) true _ ?side1 ?side2 A22.out).mono ?_); (case side1 => repeat (first | exact HR461_0.out | exact (Kd.C_below HR461_0.out HB.out) | (with_reducible refine Kd.C_alloc ?_ _) | (with_reducible refine Kd.C_drewN ?_ _) | (with_reducible refine Kd.C_drew ?_))); (case side2 => exact HC461_0.out); rintro e w' ⟨rfl, ⟨nd, rfl⟩⟩; refine ⟨_, rfl, ?_⟩))
                  go_roundg k3
                  case measure => have := HK1.out; have := HK2.out; have := HK3.out; omega
                  case rel => exact ⟨(wrap64 (x13_3 + 1)), (wrap64 (x41_3 + 1)), (fs_), (fs_), H', ⟨by have := HK1.out; have := HK2.out; have := HK3.out; omega⟩, ⟨ks_ HO_6.out⟩, ⟨ks_ HO_7.out⟩, ⟨kr_ HO_10.out⟩, ⟨ks_ HO_24.out⟩, ⟨ks_ HO_32.out⟩, ⟨cc_ HR461_0.out⟩, ⟨kr_ HO_X9.out⟩, ⟨bl_ HB.out⟩⟩
                 ·replace c23 := Bool.eq_false_iff.mpr c23
                  subst c23; rw [if_neg (show ¬ (false = true) by decide)] at H
                  have H' := Aside0.mk H; clear H; have p462 : 0 ≤ (x41_3 : Int) := of_decide_eq_true as_; have q462 : x41_3 < ((rd_L6 t448 x26_1).length : Int) := of_decide_eq_true as_; obtain ⟨ad462, e462, hx462_0⟩ := Kd.at_int (Kd.R_reads' HO_X9.out).2.2 x41_3 p462 q462
                  cases e462
                  (try replace hx462_0 := (HB.out.cell (World.block_lt_of_cell? w _ hx462_0)).trans hx462_0)
                  replace p462 := eq_true p462; replace q462 := eq_true q462
                  go_wp2_with (first | ((with_reducible refine gate_callee (f := 38) rfl ?_); refine gl_ (some 47) Tryz.func38 #[.slice A461_0 (rd_L6 t448 x34_2).length c461_0, .int .i64 (rd (rd_L6 t448 x26_1) x41_3)] rfl ?_; (with_reducible refine (slices_Contains_int_int.calls k3 _ _ (rd_L6 t448 x34_2) (rd (rd_L6 t448 x26_1) x41_3) false _ ?side1 ?side2 A22.out).mono ?_); (case side1 => repeat (first | exact HR461_0.out | exact (Kd.C_below HR461_0.out HB.out) | (with_reducible refine Kd.C_alloc ?_ _) | (with_reducible refine Kd.C_drewN ?_ _) | (with_reducible refine Kd.C_drew ?_))); (case side2 => exact HC461_0.out); rintro e w' ⟨rfl, ⟨nd, rfl⟩⟩; refine ⟨_, rfl, ?_⟩))
                  go_roundg k3
                  case measure => have := HK1.out; have := HK2.out; have := HK3.out; omega
                  case rel => exact ⟨(x13_3), (wrap64 (x41_3 + 1)), (fs_), (fs_), H', ⟨by have := HK1.out; have := HK2.out; have := HK3.out; omega⟩, ⟨ks_ HO_6.out⟩, ⟨ks_ HO_7.out⟩, ⟨kr_ HO_10.out⟩, ⟨ks_ HO_24.out⟩, ⟨ks_ HO_32.out⟩, ⟨cc_ HR461_0.out⟩, ⟨kr_ HO_X9.out⟩, ⟨bl_ HB.out⟩⟩
                ·rw [if_neg c21] at H
                 exact absurd H (by simp)
               ·rw [if_neg c20] at H
                exact absurd H (by simp)
              ·rw [if_neg c19] at H
               have c19b0 : decide (x41_3 < ((rd_L6 t448 x26_1).length : Int)) = false := decide_eq_false c19; clear c19
               by_cases c24 : x26_1 = x34_2
               ·rw [if_pos c24] at H
                have c24b0 : (x26_1 == x34_2) = true := beq_iff_eq.mpr c24; have c24b1 : (x26_1 != x34_2) = false := bne_eq_false_iff_eq.mpr c24; clear c24; have H' := Aside0.mk H; clear H
                go_wp2
                go_roundg k3
                case measure => have := HK1.out; have := HK2.out; have := HK3.out; omega
                case rel => exact ⟨(x10_2), (wrap64 (x34_2 + 1)), (fs_), H', ⟨by have := HK1.out; have := HK2.out; have := HK3.out; omega⟩, ⟨ks_ HO_6.out⟩, ⟨ks_ HO_7.out⟩, ⟨kr_ HO_10.out⟩, ⟨ks_ HO_24.out⟩, ⟨ks_ HO_32.out⟩, ⟨kr_ HO_X9.out⟩, ⟨bl_ HB.out⟩⟩
               ·rw [if_neg c24] at H
                have c24b0 : (x26_1 == x34_2) = false := beq_eq_false_iff_ne.mpr c24; have c24b1 : (x26_1 != x34_2) = true := bne_iff_ne.mpr c24
                by_cases c25 : x13_3 = 2
                ·rw [if_pos c25] at H
                 have c25b0 : (x13_3 == 2) = true := beq_iff_eq.mpr c25; have c25b1 : (x13_3 != 2) = false := bne_eq_false_iff_eq.mpr c25; clear c25
                 by_cases c26 : x10_2.length < 17592186044416
                 ·rw [if_pos c26] at H
                  have LMc26 := Aside0.mk c26; clear c26; obtain ⟨y464, hy464⟩ : ∃ y_ : List Int, y_ = (x10_2 ++ [x34_2]) := ⟨_, rfl⟩; replace H : (impl_TrianglesBeside.l1 k3 t448 x7_1 x26_1 (rd_L6 t448 x26_1) y464 t448 (t448.length : Int) x26_1 t448 (t448.length : Int) (wrap64 (x34_2 + 1))) = some (r1, r2) := rh_ hy464 H; have Ny464 := Aside0.mk hy464; clear hy464; have H' := Aside0.mk H; clear H
                  go_wp2_with (first | ((with_reducible refine gate_builtin (b := .append) (xs := #[.tmp 58, .tmp 60]) rfl ?_); at_builtin; refine Kd.R_append (Kd.int .i64) (w0 := w) w.heap.size rfl (.tmp 58) (.tmp 60) 27 3 (.int .i64 0) 8 rfl Tryz.underlying27 info3 rfl (by decide) (by omega) u10 x10_2 x34_2 [.int .i64 x34_2] (fun _ => True) (fun _ => False) rfl rfl ?aP (fun _ hk => hk.elim) ?aF ?aO ?aB ?aS ?aL ?_; (case aP => exact rfl); (case aB => exact (bl_ HB.out)); (case aF => exact (fun _ _ => trivial)); (case aO => exact (kr_ HO_10.out)); (case aS => exact (below_size (bl_ HB.out))); (case aL => have := LMc26.out; omega); intro v465 w27 ho hb hg hat; rw [← Ny464.out] at ho; have X9_ := Aside0.mk (Kd.R_after (ok := (fun k_ => some k_ ≠ (u7 : Value).ownBlock)) (kr_ HO_X9.out) hg hat); clear HO_X9; have HO_X9 := X9_; clear X9_; replace HO_6 := Aside0.mk (Kd.S_after (ok := (fun k_ => some k_ ≠ (u7 : Value).ownBlock)) (ks_ HO_6.out) hg hat); replace HO_7 := Aside0.mk (Kd.S_after (ok := (fun k_ => some k_ ≠ (.slice (some ad454) t448.length co10 : Value).ownBlock ∧ some k_ ≠ (.slice (some ad454) t448.length co10 : Value).ownBlock ∧ some k_ ≠ (.slice (some ad454) t448.length co10 : Value).ownBlock)) (by (with_reducible repeat (first | apply Kd.S_alloc | apply Kd.S_drewN | apply Kd.S_drew)); exact Kd.S_mono HO_7.out (fun _ hk => ⟨⟨hk.1, ⟨hk.2.2.1, hk.2.2.2⟩⟩, hk.2.1⟩)) hg hat); replace HO_24 := Aside0.mk (Kd.S_after (ok := (fun k_ => some k_ ≠ (u7 : Value).ownBlock)) (ks_ HO_24.out) hg hat); replace HO_32 := Aside0.mk (Kd.S_after (ok := (fun k_ => some k_ ≠ (u7 : Value).ownBlock)) (ks_ HO_32.out) hg hat); replace HB := Aside0.mk (hb); have HO466 := Aside0.mk (ho); clear HO_10 ho hb hg hat))
                  go_roundg k3
                  case measure => have := HK1.out; have := HK2.out; have := HK3.out; omega
                  case rel => exact ⟨(y464), (wrap64 (x34_2 + 1)), (fs_), H', ⟨by have := HK1.out; have := HK2.out; have := HK3.out; omega⟩, ⟨ks_ HO_6.out⟩, ⟨by (with_reducible repeat (first | apply Kd.S_alloc | apply Kd.S_drewN | apply Kd.S_drew)); exact Kd.S_mono HO_7.out (fun _ hk => ⟨hk.1.1, ⟨hk.2, ⟨hk.1.2.1, hk.1.2.2⟩⟩⟩)⟩, ⟨kr_ HO466.out⟩, ⟨ks_ HO_24.out⟩, ⟨ks_ HO_32.out⟩, ⟨kr_ HO_X9.out⟩, ⟨bl_ HB.out⟩⟩
                 ·rw [if_neg c26] at H
                  exact absurd H (by simp)
                ·rw [if_neg c25] at H
                 have c25b0 : (x13_3 == 2) = false := beq_eq_false_iff_ne.mpr c25; have c25b1 : (x13_3 != 2) = true := bne_iff_ne.mpr c25; have H' := Aside0.mk H; clear H
                 go_wp2
                 go_roundg k3
                 case measure => have := HK1.out; have := HK2.out; have := HK3.out; omega
                 case rel => exact ⟨(x10_2), (wrap64 (x34_2 + 1)), (fs_), H', ⟨by have := HK1.out; have := HK2.out; have := HK3.out; omega⟩, ⟨ks_ HO_6.out⟩, ⟨ks_ HO_7.out⟩, ⟨kr_ HO_10.out⟩, ⟨ks_ HO_24.out⟩, ⟨ks_ HO_32.out⟩, ⟨kr_ HO_X9.out⟩, ⟨bl_ HB.out⟩⟩
           ·rw [if_neg c18] at H
            exact absurd H (by simp)
          ·rw [if_neg c17] at H
           exact absurd H (by simp)
         ·rw [if_neg c16] at H
          have c16b0 : decide (x34_2 < (t448.length : Int)) = false := decide_eq_false c16; clear c16
          by_cases c28 : x7_1.length < 5864062014805
          ·rw [if_pos c28] at H
           have LMc28 := Aside0.mk c28; clear c28; obtain ⟨y458, hy458⟩ : ∃ y_ : List (List Int), y_ = (x7_1 ++ [x10_2]) := ⟨_, rfl⟩; replace H : (impl_TrianglesBeside.l0 k2 t448 y458 t448 (t448.length : Int) (wrap64 (x26_1 + 1))) = some (r1, r2) := rh_ hy458 H; have Ny458 := Aside0.mk hy458; clear hy458; have H' := Aside0.mk H; clear H; obtain ⟨Ao30, co30, eo30⟩ := Kd.R_slice HO_10.out; subst eo30
           go_wp2_with (first | ((with_reducible refine gate_builtin (b := .append) (xs := #[.tmp 63, .tmp 65]) rfl ?_); at_builtin; refine Kd.S_append (Kd.slice 3 (Kd.int .i64)) (w0 := w) w.heap.size rfl (.tmp 63) (.tmp 65) 30 27 (.slice none 0 0) 24 rfl Tryz.underlying30 info27 rfl (by decide) (by omega) u7 x7_1 x10_2 [.slice Ao30 x10_2.length co30] (fun k_ => some k_ ≠ (.slice (some ad454) t448.length co10 : Value).ownBlock ∧ some k_ ≠ (.slice (some ad454) t448.length co10 : Value).ownBlock ∧ some k_ ≠ (.slice (some ad454) t448.length co10 : Value).ownBlock) (fun k_ => some k_ = (.slice Ao30 x10_2.length co30 : Value).ownBlock) rfl rfl ?aP (fun k_ hk_ => ((Kd.R_mono (ok' := fun k_ => ((fun k_ => some k_ ≠ (.slice (some ad454) t448.length co10 : Value).ownBlock ∧ some k_ ≠ (.slice (some ad454) t448.length co10 : Value).ownBlock ∧ some k_ ≠ (.slice (some ad454) t448.length co10 : Value).ownBlock)) k_ ∧ some k_ ≠ (u7 : Value).ownBlock) (Kd.R_apart' (Kd.R_apart' (Kd.R_apart' (Kd.R_apart' (HO_10.out) (Kd.S_typed HO_6.out) (by decide)) (Kd.S_typed HO_24.out) (by decide)) (Kd.S_typed HO_32.out) (by decide)) (Kd.S_typed HO_7.out) (by decide)) (fun k_ hk => ⟨⟨hk.1.1.1.2, ⟨hk.1.1.2, hk.1.2⟩⟩, hk.2⟩))).1 k_ hk_.symm) ?aF ?aO ?aB ?aS ?aL ?_; (case aP => exact Kd.M_row (Kd.R_mono (Kd.R_tight rfl (Kd.R_mono (ok' := fun k_ => ((fun k_ => some k_ ≠ (.slice (some ad454) t448.length co10 : Value).ownBlock ∧ some k_ ≠ (.slice (some ad454) t448.length co10 : Value).ownBlock ∧ some k_ ≠ (.slice (some ad454) t448.length co10 : Value).ownBlock)) k_ ∧ some k_ ≠ (u7 : Value).ownBlock) (Kd.R_apart' (Kd.R_apart' (Kd.R_apart' (Kd.R_apart' (HO_10.out) (Kd.S_typed HO_6.out) (by decide)) (Kd.S_typed HO_24.out) (by decide)) (Kd.S_typed HO_32.out) (by decide)) (Kd.S_typed HO_7.out) (by decide)) (fun k_ hk => ⟨⟨hk.1.1.1.2, ⟨hk.1.1.2, hk.1.2⟩⟩, hk.2⟩))) (fun _ h_ => h_))); (case aB => exact (bl_ HB.out)); (case aF => exact (fun k_ hk => ⟨Kd.fresh' (Kd.S_lt (ks_ HO_6.out)) k_ hk, Kd.fresh' (Kd.S_lt (ks_ HO_24.out)) k_ hk, Kd.fresh' (Kd.S_lt (ks_ HO_32.out)) k_ hk⟩)); (case aO => exact (by (with_reducible repeat (first | apply Kd.S_alloc | apply Kd.S_drewN | apply Kd.S_drew)); exact Kd.S_mono HO_7.out (fun k_ hk => ⟨⟨hk.1, ⟨hk.2.2.1, hk.2.2.2⟩⟩, fun e_ => hk.2.1 e_⟩))); (case aS => exact (below_size (bl_ HB.out))); (case aL => have := LMc28.out; omega); intro v459 w29 ho hb hg hat; rw [← Ny458.out] at ho; replace HO_6 := Aside0.mk (Kd.S_after (ok := (fun k_ => some k_ ≠ (.slice Ao30 x10_2.length co30 : Value).ownBlock)) (by (with_reducible repeat (first | apply Kd.S_alloc | apply Kd.S_drewN | apply Kd.S_drew)); exact Kd.S_mono HO_6.out (fun _ hk => ⟨hk.2, hk.1⟩)) hg hat); replace HO_24 := Aside0.mk (Kd.S_after (ok := (fun k_ => some k_ ≠ (.slice Ao30 x10_2.length co30 : Value).ownBlock)) (by (with_reducible repeat (first | apply Kd.S_alloc | apply Kd.S_drewN | apply Kd.S_drew)); exact Kd.S_mono HO_24.out (fun _ hk => ⟨hk.2, hk.1⟩)) hg hat); replace HO_32 := Aside0.mk (Kd.S_after (ok := (fun k_ => some k_ ≠ (.slice Ao30 x10_2.length co30 : Value).ownBlock)) (by (with_reducible repeat (first | apply Kd.S_alloc | apply Kd.S_drewN | apply Kd.S_drew)); exact Kd.S_mono HO_32.out (fun _ hk => ⟨hk.2, hk.1⟩)) hg hat); replace HB := Aside0.mk (hb); have HO460 := Aside0.mk (ho); clear HO_10 HO_7 ho hb hg hat))
           go_roundg k2
           case measure => have := HK1.out; have := HK2.out; omega
           case rel => exact ⟨(y458), (wrap64 (x26_1 + 1)), (fs_), H', ⟨by have := HK1.out; have := HK2.out; omega⟩, ⟨by (with_reducible repeat (first | apply Kd.S_alloc | apply Kd.S_drewN | apply Kd.S_drew)); exact Kd.S_mono HO_6.out (fun _ hk => hk.2)⟩, ⟨by (with_reducible repeat (first | apply Kd.S_alloc | apply Kd.S_drewN | apply Kd.S_drew)); exact Kd.S_mono HO460.out (fun _ hk => ⟨hk.1, hk.2.1⟩)⟩, ⟨by (with_reducible repeat (first | apply Kd.S_alloc | apply Kd.S_drewN | apply Kd.S_drew)); exact Kd.S_mono HO_24.out (fun _ hk => hk.2)⟩, ⟨bl_ HB.out⟩⟩
          ·rw [if_neg c28] at H
           exact absurd H (by simp)
      ·rw [if_neg c13] at H
       exact absurd H (by simp)
     ·rw [if_neg c12] at H
      exact absurd H (by simp)
    ·rw [if_neg c11] at H
     have c11b0 : decide (x26_1 < (t448.length : Int)) = false := decide_eq_false c11; clear c11
     simp only [Option.some.injEq, Prod.mk.injEq] at H
     obtain ⟨rfl, rfl⟩ := H
     go_wp2
     go_ret2
     exact ⟨_, by first | rfl | (simp [errW_none, errW_some] <;> rfl) | (simp [*, errW_none, errW_some] <;> rfl), by (with_reducible repeat (first | apply Kd.S_alloc | apply Kd.S_drewN | apply Kd.S_drew)); exact Kd.S_mono HO_7.out (fun _ hk => trivial), bl_ HB.out⟩
 ·replace c4 := Bool.eq_false_iff.mpr c4
  subst c4; rw [if_neg (show ¬ (false = true) by decide)] at H
  simp only [Option.some.injEq, Prod.mk.injEq] at H
  obtain ⟨rfl, rfl⟩ := H
  go_enter Tryz.func12, Tryz.ntmps12
  go_wp2_with (first | ((with_reducible refine gate_callee (f := 21) rfl ?_); refine gl_ (some 18) Tryz.func21 #[.int .i64 a0, .slice A1 l1.length c1] rfl ?_; (with_reducible refine (impl_IsTriangulation.calls k a0 _ _ l1 false _ ?side1 ?side2 A3.out).mono ?_); (case side1 => exact cc_ HR1.out); (case side2 => exact HC1.out); rintro e w31 ⟨rfl, hb⟩; refine ⟨_, rfl, ?_⟩; replace HB := Aside0.mk (below_step (bl_ HB.out) hb); (try clear hb); (try clear hb2); (try clear hk); (try clear hi)))
  go_ret2
  exact ⟨_, by first | rfl | (simp [errW_none, errW_some] <;> rfl) | (simp [*, errW_none, errW_some] <;> rfl), by first | exact Kd.S_nil _ _ _ _ _ | exact Kd.N_nil _ _ _ _ _ | exact Kd.V_nil _ _ _ _ _ | exact Kd.Q_nil _ _ _ _ _ | exact Kd.R_nil _ _ _ _ _, bl_ HB.out⟩
def impl_Diagonal_40.l0 : Nat → List (S46) → List (S46) → Int → Int → Option (Bool)
 | 0, _, _, _, _ => none
 | k + 1, x0, x1, x12, x13 => if x13 < x12 then (if 0 ≤ x13 then (if x13 < (x0.length : Int) then (if x13 < (x1.length : Int) then (if (!(((rd_T46 x0 x13).f0) == ((rd_T46 x1 x13).f0)) || (!(((rd_T46 x0 x13).f1) == ((rd_T46 x1 x13).f1)))) = true then (some false) else (impl_Diagonal_40.l0 k x0 x1 x12 (wrap64 (x13 + 1)))) else (none)) else (none)) else (none)) else (some true)
def impl_Diagonal_40.f (k : Nat) (l0 : List (S46)) (l1 : List (S46)) : Option (Bool) := if (l0.length : Int) = (l1.length : Int) then (impl_Diagonal_40.l0 k l0 l1 (l0.length : Int) 0) else (some false)
set_option maxHeartbeats 8000000 in
set_option maxRecDepth 100000 in
theorem impl_Diagonal_40.calls (k : Nat) (A0 : Option Addr) (c0 : Nat) (l0 : List (S46)) (A1 : Option Addr) (c1 : Nat) (l1 : List (S46)) (r : Bool) (w : World) (hr0 : Kd.C k46 w A0 l0.length l0) (hc0 : l0.length ≤ c0) (hr1 : Kd.C k46 w A1 l1.length l1) (hc1 : l1.length ≤ c1) (h : impl_Diagonal_40.f k l0 l1 = some r) :
  Calls Tryz.prog 40 #[.slice A0 l0.length c0, .slice A1 l1.length c1] w fun e w' => e = .returned (.bool r) ∧ Drawn0 w w' := by
 have hu46 := Tryz.underlying46; have HR0 := Aside0.mk hr0; have HC0 := Aside0.mk hc0; clear hr0 hc0; have HR1 := Aside0.mk hr1; have HC1 := Aside0.mk hc1; clear hr1 hc1; have H : (if (l0.length : Int) = (l1.length : Int) then (impl_Diagonal_40.l0 k l0 l1 (l0.length : Int) 0) else (some false)) = some r := h
 clear h
 by_cases c3 : (l0.length : Int) = (l1.length : Int)
 ·rw [if_pos c3] at H
  have c3b0 : ((l0.length : Int) == (l1.length : Int)) = true := beq_iff_eq.mpr c3; have c3b1 : ((l0.length : Int) != (l1.length : Int)) = false := bne_eq_false_iff_eq.mpr c3; have c3b2 : (l0.length == l1.length) = true := by first | simpa using c3 | (simp at c3 ⊢; omega)
  clear c3; have H' := Aside0.mk H; clear H
  go_enter Tryz.func40, Tryz.ntmps40
  go_wp2
  repeat (go_quiet (fail); try go_wp2)
  go_loopg [13] k (fun kq v13 w' => ∃ (x13_1 : Int), v13 = .int .i64 x13_1 ∧ Aside0 (impl_Diagonal_40.l0 kq l0 l1 (l0.length : Int) x13_1 = some r) ∧ Aside0 (kq ≤ k) ∧ Drawn0 w w')
  case atStart => exact ⟨(0), (fs_), H', ⟨Nat.le_refl _⟩, dr_⟩
  case round =>
   clear H'
   try clear c1
   try clear p2
   try clear c3
   try clear c3b0
   try clear c3b1
   try clear c3b2
   obtain ⟨x13_1, rfl, HA, HK1, ⟨m1, rfl⟩⟩ := hrel
   cases gk with
   | zero => exact absurd HA.out (by simp [impl_Diagonal_40.l0])
   | succ k1 =>
    have H := HA.out; clear HA
    simp only [impl_Diagonal_40.l0] at H
    by_cases c4 : x13_1 < (l0.length : Int)
    ·rw [if_pos c4] at H
     have c4b0 : decide (x13_1 < (l0.length : Int)) = true := decide_eq_true c4; clear c4
     by_cases c5 : 0 ≤ x13_1
     ·rw [if_pos c5] at H
      have c5b0 : decide (0 ≤ x13_1) = true := decide_eq_true c5; clear c5
      by_cases c6 : x13_1 < (l0.length : Int)
      ·rw [if_pos c6] at H
       have c6b0 : decide (x13_1 < (l0.length : Int)) = true := decide_eq_true c6; clear c6
       by_cases c7 : x13_1 < (l1.length : Int)
       ·rw [if_pos c7] at H
        have c7b0 : decide (x13_1 < (l1.length : Int)) = true := decide_eq_true c7; clear c7
        by_cases c8 : (!(((rd_T46 l0 x13_1).f0) == ((rd_T46 l1 x13_1).f0)) || (!(((rd_T46 l0 x13_1).f1) == ((rd_T46 l1 x13_1).f1)))) = true
        ·rw [if_pos c8] at H
         have c8b0 : (!(((rd_T46 l0 x13_1).f0) == ((rd_T46 l1 x13_1).f0)) || (!(((rd_T46 l0 x13_1).f1) == ((rd_T46 l1 x13_1).f1)))) = true := c8
         clear c8; obtain rfl := Option.some.inj H; have p483 : 0 ≤ (x13_1 : Int) := of_decide_eq_true as_; have q483 : x13_1 < (l0.length : Int) := of_decide_eq_true as_; obtain ⟨ad483, e483, hx483_0, hx483_1⟩ := at_T46 HR0.out x13_1 p483 q483
         cases e483
         replace p483 := eq_true p483; replace q483 := eq_true q483; have p484 : 0 ≤ (x13_1 : Int) := of_decide_eq_true as_; have q484 : x13_1 < (l1.length : Int) := of_decide_eq_true as_; obtain ⟨ad484, e484, hx484_0, hx484_1⟩ := at_T46 HR1.out x13_1 p484 q484
         cases e484
         replace p484 := eq_true p484; replace q484 := eq_true q484
         go_wp2
         repeat (go_quiet (fail); try go_wp2)
         go_ret
         exact ⟨fs_, dr_⟩
        ·rw [if_neg c8] at H
         have c8b0 : (!(((rd_T46 l0 x13_1).f0) == ((rd_T46 l1 x13_1).f0)) || (!(((rd_T46 l0 x13_1).f1) == ((rd_T46 l1 x13_1).f1)))) = false := by simpa using c8
         clear c8; have H' := Aside0.mk H; clear H; have p483 : 0 ≤ (x13_1 : Int) := of_decide_eq_true as_; have q483 : x13_1 < (l0.length : Int) := of_decide_eq_true as_; obtain ⟨ad483, e483, hx483_0, hx483_1⟩ := at_T46 HR0.out x13_1 p483 q483
         cases e483
         replace p483 := eq_true p483; replace q483 := eq_true q483; have p484 : 0 ≤ (x13_1 : Int) := of_decide_eq_true as_; have q484 : x13_1 < (l1.length : Int) := of_decide_eq_true as_; obtain ⟨ad484, e484, hx484_0, hx484_1⟩ := at_T46 HR1.out x13_1 p484 q484
         cases e484
         replace p484 := eq_true p484; replace q484 := eq_true q484
         go_wp2
         repeat (go_quiet (fail); try go_wp2)
         go_roundg k1
         case measure => have := HK1.out; omega
         case rel => exact ⟨(wrap64 (x13_1 + 1)), (fs_), H', ⟨by have := HK1.out; omega⟩, dr_⟩
       ·rw [if_neg c7] at H
        exact absurd H (by simp)
      ·rw [if_neg c6] at H
       exact absurd H (by simp)
     ·rw [if_neg c5] at H
      exact absurd H (by simp)
    ·rw [if_neg c4] at H
     have c4b0 : decide (x13_1 < (l0.length : Int)) = false := decide_eq_false c4; clear c4; obtain rfl := Option.some.inj H
     go_wp2
     repeat (go_quiet (fail); try go_wp2)
     go_ret
     exact ⟨fs_, dr_⟩
 ·rw [if_neg c3] at H
  have c3b0 : ((l0.length : Int) == (l1.length : Int)) = false := beq_eq_false_iff_ne.mpr c3; have c3b1 : ((l0.length : Int) != (l1.length : Int)) = true := bne_iff_ne.mpr c3; have c3b2 : (l0.length == l1.length) = false := by first | simpa using c3 | (simp at c3 ⊢; omega)
  obtain rfl := Option.some.inj H
  go_enter Tryz.func40, Tryz.ntmps40
  go_wp2
  repeat (go_quiet (fail); try go_wp2)
  go_ret
  exact ⟨fs_, dr_⟩
def impl_turned_1.f (a0 : Int) (k_ n_ : Int) : Option Int := if n_ = 0 then none else some (Int.tmod (wrap64 (a0 + k_)) n_)
set_option maxHeartbeats 4000000 in
set_option maxRecDepth 100000 in
theorem impl_turned_1.calls (a0 k_ n_ : Int) (r : Int) (g1 g2 : Nat) (w : World) (h : impl_turned_1.f a0 k_ n_ = some r) (h1 : w.heap[g1]? = some (.cells #[.int .i64 k_] 3 (0, 0))) (h2 : w.heap[g2]? = some (.cells #[.int .i64 n_] 3 (0, 0))) :
  Calls Tryz.prog 67 #[.int .i64 a0, .pointer (some ⟨g1, 0, none⟩), .pointer (some ⟨g2, 0, none⟩)] w fun e w' => e = .returned (.int .i64 r) ∧ Drawn0 w w' := by
 unfold impl_turned_1.f at h
 by_cases hn : n_ = 0
 case pos => rw [if_pos hn] at h; cases h
 rw [if_neg hn] at h
 obtain rfl := Option.some.inj h; clear h; have hc1 : w.cell? ⟨g1, 0, none⟩ = some (.int .i64 k_) := (blk_cell h1 0).trans rfl; have hc2 : w.cell? ⟨g2, 0, none⟩ = some (.int .i64 n_) := (blk_cell h2 0).trans rfl; clear h1 h2
 go_enter Tryz.func67, Tryz.ntmps67
 go_wp2
 go_ret
 exact ⟨rfl, Drawn0.refl _⟩
end Go.Proofs.YtobddjeefcoikaaGreat.PFnQuidditiesTell
