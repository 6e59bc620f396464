-- Written for this claim by a program of this session (wip/tools/xprint.py over the kit's printer, wip/tools/shrink.py).
import Derived.Test.YtmpmmhmnjdkgcabPFnExactTrianglesBesidex0
import Derived.Test.YtmpmmhmnjdkgcabPFnExactTrianglesBesidex7
import Derived.Test.YtmpmmhmnjdkgcabPFnExactTrianglesBesidex8
namespace Go.Proofs.Ytmpmmhmnjdkgcab.PFnExactTrianglesBeside
open Go.RowKit Go.Proofs.YtmpmmhmnjdkgcabW.PrintWords Go.Proofs.YtmpmmhmnjdkgcabW.PrintLast Go.Proofs.YtmpmmhmnjdkgcabW.PrintMore
attribute [local go_sem] max2_int min2_int max_two min_two max_three min_three max_four min_four   -- for this text's walks alone
set_option linter.unusedVariables false
set_option linter.unusedSimpArgs false
mutual
def impl_TrianglesBeside.l0 : Nat → List (List Int) → List (List Int) → List (List Int) → Int → Int → Option ((List (List Int)) × Bool)
 | 0, _, _, _, _, _ => none
 | k + 1, x6, x7, x24, x25, x26 => if x26 < x25 then (if 0 ≤ x26 then (if x26 < (x24.length : Int) then (impl_TrianglesBeside.l1 k x6 x7 x26 (rd_L1 x24 x26) (([] : List Int)) x24 x25 x26 x6 (x6.length : Int) 0) else (none)) else (none)) else (some (x7, true))
def impl_TrianglesBeside.l1 : Nat → List (List Int) → List (List Int) → Int → List Int → List Int → List (List Int) → Int → Int → List (List Int) → Int → Int → Option ((List (List Int)) × Bool)
 | 0, _, _, _, _, _, _, _, _, _, _, _ => none
 | k + 1, x6, x7, x8, x9, x10, x24, x25, x26, x32, x33, x34 => if x34 < x33 then (if 0 ≤ x34 then (if x34 < (x32.length : Int) then (impl_TrianglesBeside.l2 k x6 x7 x8 x9 x10 x34 (rd_L1 x32 x34) 0 x24 x25 x26 x32 x33 x34 x9 (x9.length : Int) 0) else (none)) else (none)) else (if x7.length < 5864062014805 then (impl_TrianglesBeside.l0 k x6 (x7 ++ [x10]) x24 x25 (wrap64 (x26 + 1))) else (none))
def impl_TrianglesBeside.l2 : Nat → List (List Int) → List (List Int) → Int → List Int → List Int → Int → List Int → Int → List (List Int) → Int → Int → List (List Int) → Int → Int → List Int → Int → Int → Option ((List (List Int)) × Bool)
 | 0, _, _, _, _, _, _, _, _, _, _, _, _, _, _, _, _, _ => none
 | k + 1, x6, x7, x8, x9, x10, x11, x12, x13, x24, x25, x26, x32, x33, x34, x39, x40, x41 => if x41 < x40 then (if 0 ≤ x41 then (if x41 < (x39.length : Int) then ((slices_Contains_int_int.f k x12 (rd x39 x41)).bind fun t245 => (if t245 = true then (impl_TrianglesBeside.l2 k x6 x7 x8 x9 x10 x11 x12 (wrap64 (x13 + 1)) x24 x25 x26 x32 x33 x34 x39 x40 (wrap64 (x41 + 1))) else (impl_TrianglesBeside.l2 k x6 x7 x8 x9 x10 x11 x12 x13 x24 x25 x26 x32 x33 x34 x39 x40 (wrap64 (x41 + 1))))) else (none)) else (none)) else (if x8 = x11 then (impl_TrianglesBeside.l1 k x6 x7 x8 x9 x10 x24 x25 x26 x32 x33 (wrap64 (x34 + 1))) else (if x13 = 2 then (if x10.length < 17592186044416 then (impl_TrianglesBeside.l1 k x6 x7 x8 x9 (x10 ++ [x11]) x24 x25 x26 x32 x33 (wrap64 (x34 + 1))) else (none)) else (impl_TrianglesBeside.l1 k x6 x7 x8 x9 x10 x24 x25 x26 x32 x33 (wrap64 (x34 + 1)))))
end
def impl_TrianglesBeside.f (k : Nat) (a0 : Int) (l1 : List (S54)) : Option ((List (List Int)) × Bool) := (impl_IsTriangulation.f k a0 l1).bind fun t229 => (if t229 = true then ((impl_triangles.f k a0 l1).bind fun t230 => (impl_TrianglesBeside.l0 k t230 (([] : List (List Int))) t230 (t230.length : Int) 0)) else (some (([] : List (List Int)), false)))
set_option maxHeartbeats 8000000 in
set_option maxRecDepth 100000 in
theorem impl_TrianglesBeside.calls (k : Nat) (a0 : Int) (A1 : Option Addr) (c1 : Nat) (l1 : List (S54)) (r1 : List (List Int)) (r2 : Bool) (w : World) (hr1 : Kd.C k54 w A1 l1.length l1) (hc1 : l1.length ≤ c1) (h : impl_TrianglesBeside.f k a0 l1 = some (r1, r2)) :
  Calls Try.prog 43 #[.int .i64 a0, .slice A1 l1.length c1] w fun e w' => ∃ v0_ : Value, e = .returned (.tuple #[v0_, .bool r2]) ∧ Kd.S (Kd.slice 3 (Kd.int .i64)) 22 w' w.heap.size (fun _ => True) v0_ r1 ∧ Below w.heap.size w w' := by
 have HR1 := Aside0.mk hr1; have HC1 := Aside0.mk hc1; clear hr1 hc1; have HB := Aside0.mk (Below.refl w.heap.size w); have H : ((impl_IsTriangulation.f k a0 l1).bind fun t229 => (if t229 = true then ((impl_triangles.f k a0 l1).bind fun t230 => (impl_TrianglesBeside.l0 k t230 (([] : List (List Int))) t230 (t230.length : Int) 0)) else (some (([] : List (List Int)), false)))) = some (r1, r2) := h
 clear h; replace H := Option.bind_eq_some_iff.mp H; obtain ⟨t229, A30, H⟩ := H; replace H : (if t229 = true then ((impl_triangles.f k a0 l1).bind fun t230 => (impl_TrianglesBeside.l0 k t230 (([] : List (List Int))) t230 (t230.length : Int) 0)) else (some (([] : List (List Int)), false))) = some (r1, r2) := H
 have A3 := Aside0.mk A30; clear A30
 by_cases c4 : t229 = true
 ·subst c4
  have H1 : ((impl_triangles.f k a0 l1).bind fun t230 => (impl_TrianglesBeside.l0 k t230 (([] : List (List Int))) t230 (t230.length : Int) 0)) = some (r1, r2) := by rw [if_pos rfl] at H; exact H
  clear H; have H := H1; clear H1; replace H := Option.bind_eq_some_iff.mp H; obtain ⟨t230, A50, H⟩ := H; replace H : (impl_TrianglesBeside.l0 k t230 (([] : List (List Int))) t230 (t230.length : Int) 0) = some (r1, r2) := H; have A5 := Aside0.mk A50; clear A50; obtain ⟨y233, hy233⟩ : ∃ y_ : List (List Int), y_ = (([] : List (List Int))) := ⟨_, rfl⟩; replace H : (impl_TrianglesBeside.l0 k t230 y233 t230 (t230.length : Int) 0) = some (r1, r2) := rh_ hy233 H; have Ny233 := Aside0.mk hy233; clear hy233; have H' := Aside0.mk H; clear H
  go_enter Try.func43, Try.ntmps43
  go_wp2_with (first | ((with_reducible refine gate_callee (f := 23) rfl ?_); refine goesL_ (some 18) rfl rfl Try.func23 (by kernel_rfl) rfl #[.int .i64 a0, .slice A1 l1.length c1] rfl (by (try simp only [List.map_toArray, List.map_cons, List.map_nil]); first | done | rfl | (simp only [List.length_drop, List.length_take]; rfl)) ?_; (with_reducible refine (impl_IsTriangulation.calls k a0 _ _ l1 true _ ?side1 ?side2 A3.out).mono ?_); (case side1 => repeat (first | exact HR1.out | (with_reducible refine Kd.C_alloc ?_ _) | (with_reducible refine Kd.C_drewN ?_ _) | (with_reducible refine Kd.C_drew ?_))); (case side2 => exact HC1.out); rintro e w6 ⟨rfl, hb⟩; refine ⟨_, rfl, ?_⟩; have n0_ := Aside0.mk (below_step (bl_ HB.out) hb); clear HB; have HB := n0_; clear n0_; (try clear hb); (try clear hb2); (try clear hk); (try clear hi)) | ((with_reducible refine gate_callee (f := 73) rfl ?_); refine goesL_ (some 22) rfl rfl Try.func73 (by kernel_rfl) rfl #[.int .i64 a0, .slice A1 l1.length c1] rfl (by (try simp only [List.map_toArray, List.map_cons, List.map_nil]); first | done | rfl | (simp only [List.length_drop, List.length_take]; rfl)) ?_; (with_reducible refine (impl_triangles.calls k a0 _ _ l1 t230 _ ?side1 ?side2 A5.out).mono ?_); (case side1 => repeat (first | exact (Kd.C_below HR1.out HB.out) | (with_reducible refine Kd.C_alloc ?_ _) | (with_reducible refine Kd.C_drewN ?_ _) | (with_reducible refine Kd.C_drew ?_))); (case side2 => exact HC1.out); rintro e w7 ⟨v231, rfl, ho0, hb⟩; refine ⟨_, rfl, ?_⟩; have n0_ := Aside0.mk (Kd.S_lower ho0 (below_size (bl_ HB.out))); have n1_ := Aside0.mk (below_step (bl_ HB.out) hb); clear HB; have HO232 := n0_; have HB := n1_; clear n0_ n1_; (try clear hb); (try clear hb2); (try clear hk); (try clear hi); (try clear ho0)) | ((with_reducible refine gate_dst (N := 23) rfl ?_); refine Kd.S_lit (Kd.slice 3 (Kd.int .i64)) _ 22 ?hg (N := 23) ?hd (xs := ([] : List (List Int))) (inner := []) (ok := fun _ => True) (okp := fun _ => True) ?hr ?hp (fun _ hk => hk) trivial (Below.refl _ _) (Nat.le_refl _) (by simp) ?_; (case hd => rfl); (case hg => rfl); (case hr => first | (go_simp; done) | (go_simp; rfl)); (case hp => exact (Reps.none _ _)); intro v234 w8 ho9 hb hg_ hnew_; clear hg_ hnew_; (first | rw [← Ny233.out] at ho9 | (simp only [Int.reduceToNat] at ho9; rw [← Ny233.out] at ho9)); have n0_ := Aside0.mk (Kd.S_elder' (by (with_reducible repeat (first | apply Kd.S_alloc | apply Kd.S_drewN | apply Kd.S_drew)); exact HO232.out) (Kd.S_base ho9) hb); have n1_ := Aside0.mk (Kd.S_lower (Kd.S_new' ho9 (Kd.S_lt (by (with_reducible repeat (first | apply Kd.S_alloc | apply Kd.S_drewN | apply Kd.S_drew)); exact HO232.out))) (below_size (bl_ HB.out))); have n2_ := Aside0.mk (below_step (bl_ HB.out) hb); clear HO232; clear HB; have HO232 := n0_; have HO235 := n1_; have HB := n2_; clear n0_ n1_ n2_; clear hb ho9; obtain ⟨Ao10, co10, eo10⟩ := Kd.S_slice HO232.out; subst eo10))
  go_loopg [7, 26] k (fun kq v7 v26 w' => ∃ (x7_1 : List (List Int)) (x26_1 : Int), v26 = .int .i64 x26_1 ∧ Aside0 (impl_TrianglesBeside.l0 kq t230 x7_1 t230 (t230.length : Int) x26_1 = some (r1, r2)) ∧ Aside0 (kq ≤ k) ∧ Aside0 (Kd.S (Kd.slice 3 (Kd.int .i64)) 22 w' w.heap.size (fun k_ => some k_ ≠ (v7 : Value).ownBlock) (.slice Ao10 t230.length co10) t230) ∧ Aside0 (Kd.S (Kd.slice 3 (Kd.int .i64)) 22 w' w.heap.size (fun k_ => some k_ ≠ ((.slice Ao10 t230.length co10) : Value).ownBlock ∧ some k_ ≠ ((.slice Ao10 t230.length co10) : Value).ownBlock) v7 x7_1) ∧ Aside0 (Kd.S (Kd.slice 3 (Kd.int .i64)) 22 w' w.heap.size (fun k_ => some k_ ≠ (v7 : Value).ownBlock) (.slice Ao10 t230.length co10) t230) ∧ Aside0 (Below w.heap.size w w'))
  case atStart => exact ⟨(y233), (0), (fs_), H', ⟨Nat.le_refl _⟩, ⟨by (with_reducible repeat (first | apply Kd.S_alloc | apply Kd.S_drewN | apply Kd.S_drew)); exact Kd.S_mono HO232.out (fun _ hk => hk.2)⟩, ⟨by (with_reducible repeat (first | apply Kd.S_alloc | apply Kd.S_drewN | apply Kd.S_drew)); exact Kd.S_mono HO235.out (fun _ hk => ⟨hk.2, hk.2⟩)⟩, ⟨by (with_reducible repeat (first | apply Kd.S_alloc | apply Kd.S_drewN | apply Kd.S_drew)); exact Kd.S_mono HO232.out (fun _ hk => hk.2)⟩, ⟨bl_ HB.out⟩⟩
  case round =>
   clear H'
   try clear c1
   try clear c2
   try clear p2
   try clear c4
   try clear c7
   obtain ⟨x7_1, x26_1, rfl, HA, HK1, HO_6, HO_7, HO_24, HB⟩ := hrel
   cases gk with
   | zero => exact absurd HA.out (by simp [impl_TrianglesBeside.l0])
   | succ k1 =>
    have H := HA.out; clear HA
    simp only [impl_TrianglesBeside.l0] at H
    by_cases c11 : x26_1 < (t230.length : Int)
    ·rw [if_pos c11] at H
     have c11b0 : decide (x26_1 < (t230.length : Int)) = true := decide_eq_true c11; clear c11
     by_cases c12 : 0 ≤ x26_1
     ·rw [if_pos c12] at H
      have c12b0 : decide (0 ≤ x26_1) = true := decide_eq_true c12; clear c12
      by_cases c13 : x26_1 < (t230.length : Int)
      ·rw [if_pos c13] at H
       have c13b0 : decide (x26_1 < (t230.length : Int)) = true := decide_eq_true c13; clear c13; obtain ⟨y237, hy237⟩ : ∃ y_ : List Int, y_ = (([] : List Int)) := ⟨_, rfl⟩; replace H : (impl_TrianglesBeside.l1 k1 t230 x7_1 x26_1 (rd_L1 t230 x26_1) y237 t230 (t230.length : Int) x26_1 t230 (t230.length : Int) 0) = some (r1, r2) := rh_ hy237 H; have Ny237 := Aside0.mk hy237; clear hy237; have H' := Aside0.mk H; clear H; have p236 : 0 ≤ (x26_1 : Int) := of_decide_eq_true as_; have q236 : x26_1 < (t230.length : Int) := of_decide_eq_true as_; obtain ⟨ad236, A236_0, c236_0, e236, hx236_0, hl236_0, hi236_0⟩ := at_L1 (Kd.S_reads' HO_24.out).2.2 x26_1 p236 q236
       cases e236
       obtain ⟨ce236, hce236, hMe236, hcc236⟩ := Kd.S_get HO_24.out [] x26_1 p236 (by first | exact q236 | exact of_decide_eq_true as_ | (have e_ := (Kd.S_reads' HO_24.out).1; omega))
       obtain ⟨ve236_0, rfl, ge236_0⟩ := hMe236; have hv236_0 := hcc236 0 _ rfl; rw [Nat.add_zero, show ((Kd.slice 3 (Kd.int .i64))).sz = 1 from rfl, Nat.mul_one] at hv236_0
       replace hv236_0 := Option.some.inj (hv236_0.symm.trans hx236_0); rw [hv236_0] at ge236_0
       have HL236_0 := Aside0.mk (show Kd.R (Kd.int .i64) 3 _ _ _ _ (rd_L1 t230 x26_1) from ge236_0)
       clear hv236_0 ge236_0; clear hcc236 hce236; have HR236_0 := Aside0.mk hi236_0; have HC236_0 := Aside0.mk hl236_0; clear hi236_0 hl236_0; replace p236 := eq_true p236; replace q236 := eq_true q236
       go_wp2_with (first | ((with_reducible refine gate_dst (N := 31) rfl ?_); refine Kd.R_lit (Kd.int .i64) _ 3 ?hg (N := 31) ?hd (xs := ([] : List Int)) (inner := []) (ok := fun _ => True) (okp := fun _ => True) ?hr ?hp (fun _ hk => hk) trivial (Below.refl _ _) (Nat.le_refl _) (by simp) ?_; (case hd => rfl); (case hg => rfl); (case hr => first | (go_simp; done) | (go_simp; rfl)); (case hp => exact (Reps.none _ _)); intro v238 w14 ho15 hb hg_ hnew_; clear hg_ hnew_; (first | rw [← Ny237.out] at ho15 | (simp only [Int.reduceToNat] at ho15; rw [← Ny237.out] at ho15)); have n0_ := Aside0.mk (Kd.S_elder' (by (with_reducible repeat (first | apply Kd.S_alloc | apply Kd.S_drewN | apply Kd.S_drew)); exact HO_6.out) (Kd.R_base ho15) hb); have n1_ := Aside0.mk (Kd.S_elder' (by (with_reducible repeat (first | apply Kd.S_alloc | apply Kd.S_drewN | apply Kd.S_drew)); exact HO_7.out) (Kd.R_base ho15) hb); have n2_ := Aside0.mk (Kd.S_elder' (by (with_reducible repeat (first | apply Kd.S_alloc | apply Kd.S_drewN | apply Kd.S_drew)); exact HO_24.out) (Kd.R_base ho15) hb); have n3_ := Aside0.mk (Kd.R_elder' (kr_ HL236_0.out) (Kd.R_base ho15) hb); have n4_ := Aside0.mk (Kd.R_lower (Kd.R_new' ho15 (Kd.R_lt (kr_ HL236_0.out))) (below_size (bl_ HB.out))); have n5_ := Aside0.mk (Kd.C_below (by repeat (first | (with_reducible exact HR236_0.out) | (with_reducible refine Kd.C_alloc ?_ _) | (with_reducible refine Kd.C_drewN ?_ _) | (with_reducible refine Kd.C_drew ?_) | exact HR236_0.out)) hb); have n6_ := Aside0.mk (below_step (bl_ HB.out) hb); clear HO_6; clear HO_7; clear HO_24; clear HL236_0; clear HR236_0; clear HB; have HO_6 := n0_; have HO_7 := n1_; have HO_24 := n2_; have HL236_0 := n3_; have HO239 := n4_; have HR236_0 := n5_; have HB := n6_; clear n0_ n1_ n2_ n3_ n4_ n5_ n6_; clear hb ho15))
       go_loopg [10, 34] k1 (fun kq v10 v34 w' => ∃ (x10_2 : List Int) (x34_2 : Int), v34 = .int .i64 x34_2 ∧ Aside0 (impl_TrianglesBeside.l1 kq t230 x7_1 x26_1 (rd_L1 t230 x26_1) x10_2 t230 (t230.length : Int) x26_1 t230 (t230.length : Int) x34_2 = some (r1, r2)) ∧ Aside0 (kq ≤ k1) ∧ Aside0 (Kd.S (Kd.slice 3 (Kd.int .i64)) 22 w' w.heap.size (fun k_ => some k_ ≠ (u7 : Value).ownBlock ∧ some k_ ≠ (v10 : Value).ownBlock) (.slice (some ad236) t230.length co10) t230) ∧ Aside0 (Kd.S (Kd.slice 3 (Kd.int .i64)) 22 w' w.heap.size (fun k_ => some k_ ≠ ((.slice (some ad236) t230.length co10) : Value).ownBlock ∧ some k_ ≠ (v10 : Value).ownBlock ∧ some k_ ≠ ((.slice (some ad236) t230.length co10) : Value).ownBlock ∧ some k_ ≠ ((.slice (some ad236) t230.length co10) : Value).ownBlock) u7 x7_1) ∧ Aside0 (Kd.R (Kd.int .i64) 3 w' w.heap.size (fun _ => True) v10 x10_2) ∧ Aside0 (Kd.S (Kd.slice 3 (Kd.int .i64)) 22 w' w.heap.size (fun k_ => some k_ ≠ (u7 : Value).ownBlock ∧ some k_ ≠ (v10 : Value).ownBlock) (.slice (some ad236) t230.length co10) t230) ∧ Aside0 (Kd.S (Kd.slice 3 (Kd.int .i64)) 22 w' w.heap.size (fun k_ => some k_ ≠ (u7 : Value).ownBlock ∧ some k_ ≠ (v10 : Value).ownBlock) (.slice (some ad236) t230.length co10) t230) ∧ Aside0 (Kd.R (Kd.int .i64) 3 w' w.heap.size (fun k_ => some k_ ≠ (u7 : Value).ownBlock ∧ some k_ ≠ (v10 : Value).ownBlock) (.slice A236_0 (rd_L1 t230 x26_1).length c236_0) (rd_L1 t230 x26_1)) ∧ Aside0 (Below w.heap.size w w'))
       case atStart => exact ⟨(y237), (0), (fs_), H', ⟨Nat.le_refl _⟩, ⟨by (with_reducible repeat (first | apply Kd.S_alloc | apply Kd.S_drewN | apply Kd.S_drew)); exact HO_6.out⟩, ⟨by (with_reducible repeat (first | apply Kd.S_alloc | apply Kd.S_drewN | apply Kd.S_drew)); exact Kd.S_mono HO_7.out (fun _ hk => ⟨hk.1.1, ⟨hk.2, ⟨hk.1.2, hk.1.1⟩⟩⟩)⟩, ⟨by (with_reducible repeat (first | apply Kd.R_alloc | apply Kd.R_drewN | apply Kd.R_drew)); exact Kd.R_mono HO239.out (fun _ hk => trivial)⟩, ⟨by (with_reducible repeat (first | apply Kd.S_alloc | apply Kd.S_drewN | apply Kd.S_drew)); exact HO_24.out⟩, ⟨by (with_reducible repeat (first | apply Kd.S_alloc | apply Kd.S_drewN | apply Kd.S_drew)); exact HO_6.out⟩, ⟨by (with_reducible repeat (first | apply Kd.R_alloc | apply Kd.R_drewN | apply Kd.R_drew)); first | exact Kd.R_mono HL236_0.out (fun _ hk => ⟨hk.1.1, hk.2⟩) | exact Kd.R_mono HL236_0.out (fun _ hk => ⟨hk.1, (by simp [Value.ownBlock])⟩)⟩, ⟨bl_ HB.out⟩⟩
       case round =>
        clear H'
        try clear c1
        try clear c2
        try clear p2
        try clear q2
        try clear hx2
        try clear c4
        try clear c7
        try clear c11
        try clear c11b0
        try clear c12
        try clear c12b0
        try clear c13
        try clear c13b0
        try clear hx236_0
        try clear p2
        try clear p236
        try clear q236
        obtain ⟨x10_2, x34_2, rfl, HA, HK2, HO_6, HO_7, HO_10, HO_24, HO_32, HO_X9, HB⟩ := hrel
        cases gk with
        | zero => exact absurd HA.out (by simp [impl_TrianglesBeside.l1])
        | succ k2 =>
         have H := HA.out; clear HA
         simp only [impl_TrianglesBeside.l1] at H
         by_cases c16 : x34_2 < (t230.length : Int)
         ·rw [if_pos c16] at H
          have c16b0 : decide (x34_2 < (t230.length : Int)) = true := decide_eq_true c16; clear c16
          by_cases c17 : 0 ≤ x34_2
          ·rw [if_pos c17] at H
           have c17b0 : decide (0 ≤ x34_2) = true := decide_eq_true c17; clear c17
           by_cases c18 : x34_2 < (t230.length : Int)
           ·rw [if_pos c18] at H
            have c18b0 : decide (x34_2 < (t230.length : Int)) = true := decide_eq_true c18; clear c18; have H' := Aside0.mk H; clear H; have p243 : 0 ≤ (x34_2 : Int) := of_decide_eq_true as_; have q243 : x34_2 < (t230.length : Int) := of_decide_eq_true as_; obtain ⟨ad243, A243_0, c243_0, e243, hx243_0, hl243_0, hi243_0⟩ := at_L1 (Kd.S_reads' HO_32.out).2.2 x34_2 p243 q243; obtain rfl : ad236 = ad243 := (by injection e243)
            obtain ⟨ce243, hce243, hMe243, hcc243⟩ := Kd.S_get HO_32.out [] x34_2 p243 (by first | exact q243 | exact of_decide_eq_true as_ | (have e_ := (Kd.S_reads' HO_32.out).1; omega))
            obtain ⟨ve243_0, rfl, ge243_0⟩ := hMe243; have hv243_0 := hcc243 0 _ rfl; rw [Nat.add_zero, show ((Kd.slice 3 (Kd.int .i64))).sz = 1 from rfl, Nat.mul_one] at hv243_0
            replace hv243_0 := Option.some.inj (hv243_0.symm.trans hx243_0); rw [hv243_0] at ge243_0
            have HL243_0 := Aside0.mk (show Kd.R (Kd.int .i64) 3 _ _ _ _ (rd_L1 t230 x34_2) from ge243_0)
            clear hv243_0 ge243_0; clear hcc243 hce243; have HR243_0 := Aside0.mk hi243_0; have HC243_0 := Aside0.mk hl243_0; clear hi243_0 hl243_0; replace p243 := eq_true p243; replace q243 := eq_true q243
            go_wp2
            go_loopg [13, 41] k2 (fun kq v13 v41 w' => ∃ (x13_3 : Int) (x41_3 : Int), v13 = .int .i64 x13_3 ∧ v41 = .int .i64 x41_3 ∧ Aside0 (impl_TrianglesBeside.l2 kq t230 x7_1 x26_1 (rd_L1 t230 x26_1) x10_2 x34_2 (rd_L1 t230 x34_2) x13_3 t230 (t230.length : Int) x26_1 t230 (t230.length : Int) x34_2 (rd_L1 t230 x26_1) ((rd_L1 t230 x26_1).length : Int) x41_3 = some (r1, r2)) ∧ Aside0 (kq ≤ k2) ∧ Aside0 (Kd.S (Kd.slice 3 (Kd.int .i64)) 22 w' w.heap.size (fun k_ => some k_ ≠ (u7 : Value).ownBlock ∧ some k_ ≠ (u10 : Value).ownBlock) (.slice (some ad236) t230.length co10) t230) ∧ Aside0 (Kd.S (Kd.slice 3 (Kd.int .i64)) 22 w' w.heap.size (fun k_ => some k_ ≠ ((.slice (some ad236) t230.length co10) : Value).ownBlock ∧ some k_ ≠ (u10 : Value).ownBlock ∧ some k_ ≠ ((.slice (some ad236) t230.length co10) : Value).ownBlock ∧ some k_ ≠ ((.slice (some ad236) t230.length co10) : Value).ownBlock) u7 x7_1) ∧ Aside0 (Kd.R (Kd.int .i64) 3 w' w.heap.size (fun _ => True) u10 x10_2) ∧ Aside0 (Kd.S (Kd.slice 3 (Kd.int .i64)) 22 w' w.heap.size (fun k_ => some k_ ≠ (u7 : Value).ownBlock ∧ some k_ ≠ (u10 : Value).ownBlock) (.slice (some ad236) t230.length co10) t230) ∧ Aside0 (Kd.S (Kd.slice 3 (Kd.int .i64)) 22 w' w.heap.size (fun k_ => some k_ ≠ (u7 : Value).ownBlock ∧ some k_ ≠ (u10 : Value).ownBlock) (.slice (some ad236) t230.length co10) t230) ∧ Aside0 (Kd.C (Kd.int .i64) w' A243_0 (rd_L1 t230 x34_2).length (rd_L1 t230 x34_2)) ∧ Aside0 (Kd.R (Kd.int .i64) 3 w' w.heap.size (fun k_ => some k_ ≠ (u7 : Value).ownBlock ∧ some k_ ≠ (u10 : Value).ownBlock) (.slice A236_0 (rd_L1 t230 x26_1).length c236_0) (rd_L1 t230 x26_1)) ∧ Aside0 (Below w.heap.size w w'))
            case atStart => exact ⟨(0), (0), (fs_), (fs_), H', ⟨Nat.le_refl _⟩, ⟨by (with_reducible repeat (first | apply Kd.S_alloc | apply Kd.S_drewN | apply Kd.S_drew)); exact HO_6.out⟩, ⟨by (with_reducible repeat (first | apply Kd.S_alloc | apply Kd.S_drewN | apply Kd.S_drew)); exact HO_7.out⟩, ⟨kr_ HO_10.out⟩, ⟨by (with_reducible repeat (first | apply Kd.S_alloc | apply Kd.S_drewN | apply Kd.S_drew)); exact HO_24.out⟩, ⟨by (with_reducible repeat (first | apply Kd.S_alloc | apply Kd.S_drewN | apply Kd.S_drew)); exact HO_32.out⟩, ⟨by repeat (first | (with_reducible exact HR243_0.out) | (with_reducible refine Kd.C_alloc ?_ _) | (with_reducible refine Kd.C_drewN ?_ _) | (with_reducible refine Kd.C_drew ?_) | exact HR243_0.out)⟩, ⟨kr_ HO_X9.out⟩, ⟨bl_ HB.out⟩⟩
            case round =>
             clear H'
             try clear c1
             try clear c2
             try clear p2
             try clear q2
             try clear hx2
             try clear c4
             try clear c7
             try clear c11
             try clear c11b0
             try clear c12
             try clear c12b0
             try clear c13
             try clear c13b0
             try clear c16
             try clear c16b0
             try clear c17
             try clear c17b0
             try clear c18
             try clear c18b0
             try clear hx236_0
             try clear hx243_0
             try clear p2
             try clear p236
             try clear p243
             try clear q2
             try clear q236
             try clear q243
             obtain ⟨x13_3, x41_3, rfl, rfl, HA, HK3, HO_6, HO_7, HO_10, HO_24, HO_32, HR243_0, HO_X9, HB⟩ := hrel
             cases gk with
             | zero => exact absurd HA.out (by simp [impl_TrianglesBeside.l2])
             | succ k3 =>
              have H := HA.out; clear HA
              simp only [impl_TrianglesBeside.l2] at H
              by_cases c19 : x41_3 < ((rd_L1 t230 x26_1).length : Int)
              ·rw [if_pos c19] at H
               have c19b0 : decide (x41_3 < ((rd_L1 t230 x26_1).length : Int)) = true := decide_eq_true c19; clear c19
               by_cases c20 : 0 ≤ x41_3
               ·rw [if_pos c20] at H
                have c20b0 : decide (0 ≤ x41_3) = true := decide_eq_true c20; clear c20
                by_cases c21 : x41_3 < ((rd_L1 t230 x26_1).length : Int)
                ·rw [if_pos c21] at H
                 have c21b0 : decide (x41_3 < ((rd_L1 t230 x26_1).length : Int)) = true := decide_eq_true c21; clear c21; replace H := Option.bind_eq_some_iff.mp H; obtain ⟨t245, A220, H⟩ := H; replace H : (if t245 = true then (impl_TrianglesBeside.l2 k3 t230 x7_1 x26_1 (rd_L1 t230 x26_1) x10_2 x34_2 (rd_L1 t230 x34_2) (wrap64 (x13_3 + 1)) t230 (t230.length : Int) x26_1 t230 (t230.length : Int) x34_2 (rd_L1 t230 x26_1) ((rd_L1 t230 x26_1).length : Int) (wrap64 (x41_3 + 1))) else (impl_TrianglesBeside.l2 k3 t230 x7_1 x26_1 (rd_L1 t230 x26_1) x10_2 x34_2 (rd_L1 t230 x34_2) x13_3 t230 (t230.length : Int) x26_1 t230 (t230.length : Int) x34_2 (rd_L1 t230 x26_1) ((rd_L1 t230 x26_1).length : Int) (wrap64 (x41_3 + 1)))) = some (r1, r2) := H
                 have A22 := Aside0.mk A220; clear A220
                 by_cases c23 : t245 = true
                 ·subst c23
                  have H1 : (impl_TrianglesBeside.l2 k3 t230 x7_1 x26_1 (rd_L1 t230 x26_1) x10_2 x34_2 (rd_L1 t230 x34_2) (wrap64 (x13_3 + 1)) t230 (t230.length : Int) x26_1 t230 (t230.length : Int) x34_2 (rd_L1 t230 x26_1) ((rd_L1 t230 x26_1).length : Int) (wrap64 (x41_3 + 1))) = some (r1, r2) := by rw [if_pos rfl] at H; exact H
                  clear H; have H := H1; clear H1; have H' := Aside0.mk H; clear H; have p244 : 0 ≤ (x41_3 : Int) := of_decide_eq_true as_; have q244 : x41_3 < ((rd_L1 t230 x26_1).length : Int) := of_decide_eq_true as_; obtain ⟨ad244, e244, hx244_0⟩ := Kd.at_int (Kd.R_reads' HO_X9.out).2.2 x41_3 p244 q244
                  cases e244
                  (try replace hx244_0 := (HB.out.cell (World.block_lt_of_cell? w _ hx244_0)).trans hx244_0)
                  replace p244 := eq_true p244; replace q244 := eq_true q244
                  go_wp2_with (first | ((with_reducible refine gate_callee (f := 75) rfl ?_); refine goesL_ (some 47) rfl rfl Try.func75 (by kernel_rfl) rfl #[.slice A243_0 (rd_L1 t230 x34_2).length c243_0, .int .i64 (rd (rd_L1 t230 x26_1) x41_3)] rfl (by (try simp only [List.map_toArray, List.map_cons, List.map_nil]); first | done | rfl | (simp only [List.length_drop, List.length_take]; rfl)) ?_; (with_reducible refine (slices_Contains_int_int.calls k3 _ _ (rd_L1 t230 x34_2) (rd (rd_L1 t230 x26_1) x41_3) true _ ?side1 ?side2 A22.out).mono ?_); (case side1 => repeat (first | exact HR243_0.out | exact (Kd.C_below HR243_0.out HB.out) | (with_reducible refine Kd.C_alloc ?_ _) | (with_reducible refine Kd.C_drewN ?_ _) | (with_reducible refine Kd.C_drew ?_))); (case side2 => exact HC243_0.out); rintro e w' ⟨rfl, ⟨nd, rfl⟩⟩; refine ⟨_, rfl, ?_⟩))
                  go_roundg k3
                  case measure => have := HK1.out; have := HK2.out; have := HK3.out; omega
                  case rel => exact ⟨(wrap64 (x13_3 + 1)), (wrap64 (x41_3 + 1)), (fs_), (fs_), H', ⟨by have := HK1.out; have := HK2.out; have := HK3.out; omega⟩, ⟨by (with_reducible repeat (first | apply Kd.S_alloc | apply Kd.S_drewN | apply Kd.S_drew)); exact HO_6.out⟩, ⟨by (with_reducible repeat (first | apply Kd.S_alloc | apply Kd.S_drewN | apply Kd.S_drew)); exact HO_7.out⟩, ⟨kr_ HO_10.out⟩, ⟨by (with_reducible repeat (first | apply Kd.S_alloc | apply Kd.S_drewN | apply Kd.S_drew)); exact HO_24.out⟩, ⟨by (with_reducible repeat (first | apply Kd.S_alloc | apply Kd.S_drewN | apply Kd.S_drew)); exact HO_32.out⟩, ⟨by repeat (first | (with_reducible exact HR243_0.out) | (with_reducible refine Kd.C_alloc ?_ _) | (with_reducible refine Kd.C_drewN ?_ _) | (with_reducible refine Kd.C_drew ?_) | exact HR243_0.out)⟩, ⟨kr_ HO_X9.out⟩, ⟨bl_ HB.out⟩⟩
                 ·replace c23 := Bool.eq_false_iff.mpr c23
                  subst c23; have H1 : (impl_TrianglesBeside.l2 k3 t230 x7_1 x26_1 (rd_L1 t230 x26_1) x10_2 x34_2 (rd_L1 t230 x34_2) x13_3 t230 (t230.length : Int) x26_1 t230 (t230.length : Int) x34_2 (rd_L1 t230 x26_1) ((rd_L1 t230 x26_1).length : Int) (wrap64 (x41_3 + 1))) = some (r1, r2) := by rw [if_neg (show ¬ (false = true) by decide)] at H; exact H
                  clear H; have H := H1; clear H1; have H' := Aside0.mk H; clear H; have p244 : 0 ≤ (x41_3 : Int) := of_decide_eq_true as_; have q244 : x41_3 < ((rd_L1 t230 x26_1).length : Int) := of_decide_eq_true as_; obtain ⟨ad244, e244, hx244_0⟩ := Kd.at_int (Kd.R_reads' HO_X9.out).2.2 x41_3 p244 q244
                  cases e244
                  (try replace hx244_0 := (HB.out.cell (World.block_lt_of_cell? w _ hx244_0)).trans hx244_0)
                  replace p244 := eq_true p244; replace q244 := eq_true q244
                  go_wp2_with (first | ((with_reducible refine gate_callee (f := 75) rfl ?_); refine goesL_ (some 47) rfl rfl Try.func75 (by kernel_rfl) rfl #[.slice A243_0 (rd_L1 t230 x34_2).length c243_0, .int .i64 (rd (rd_L1 t230 x26_1) x41_3)] rfl (by (try simp only [List.map_toArray, List.map_cons, List.map_nil]); first | done | rfl | (simp only [List.length_drop, List.length_take]; rfl)) ?_; (with_reducible refine (slices_Contains_int_int.calls k3 _ _ (rd_L1 t230 x34_2) (rd (rd_L1 t230 x26_1) x41_3) false _ ?side1 ?side2 A22.out).mono ?_); (case side1 => repeat (first | exact HR243_0.out | exact (Kd.C_below HR243_0.out HB.out) | (with_reducible refine Kd.C_alloc ?_ _) | (with_reducible refine Kd.C_drewN ?_ _) | (with_reducible refine Kd.C_drew ?_))); (case side2 => exact HC243_0.out); rintro e w' ⟨rfl, ⟨nd, rfl⟩⟩; refine ⟨_, rfl, ?_⟩))
                  go_roundg k3
                  case measure => have := HK1.out; have := HK2.out; have := HK3.out; omega
                  case rel => exact ⟨(x13_3), (wrap64 (x41_3 + 1)), (fs_), (fs_), H', ⟨by have := HK1.out; have := HK2.out; have := HK3.out; omega⟩, ⟨by (with_reducible repeat (first | apply Kd.S_alloc | apply Kd.S_drewN | apply Kd.S_drew)); exact HO_6.out⟩, ⟨by (with_reducible repeat (first | apply Kd.S_alloc | apply Kd.S_drewN | apply Kd.S_drew)); exact HO_7.out⟩, ⟨kr_ HO_10.out⟩, ⟨by (with_reducible repeat (first | apply Kd.S_alloc | apply Kd.S_drewN | apply Kd.S_drew)); exact HO_24.out⟩, ⟨by (with_reducible repeat (first | apply Kd.S_alloc | apply Kd.S_drewN | apply Kd.S_drew)); exact HO_32.out⟩, ⟨by repeat (first | (with_reducible exact HR243_0.out) | (with_reducible refine Kd.C_alloc ?_ _) | (with_reducible refine Kd.C_drewN ?_ _) | (with_reducible refine Kd.C_drew ?_) | exact HR243_0.out)⟩, ⟨kr_ HO_X9.out⟩, ⟨bl_ HB.out⟩⟩
                ·rw [if_neg c21] at H
                 exact absurd H (by simp)
               ·rw [if_neg c20] at H
                exact absurd H (by simp)
              ·rw [if_neg c19] at H
               have c19b0 : decide (x41_3 < ((rd_L1 t230 x26_1).length : Int)) = false := decide_eq_false c19; clear c19
               by_cases c24 : x26_1 = x34_2
               ·rw [if_pos c24] at H
                have c24b0 : (x26_1 == x34_2) = true := beq_iff_eq.mpr c24; have c24b1 : (x26_1 != x34_2) = false := bne_eq_false_iff_eq.mpr c24; clear c24; have H' := Aside0.mk H; clear H
                go_wp2
                go_roundg k3
                case measure => have := HK1.out; have := HK2.out; have := HK3.out; omega
                case rel => exact ⟨(x10_2), (wrap64 (x34_2 + 1)), (fs_), H', ⟨by have := HK1.out; have := HK2.out; have := HK3.out; omega⟩, ⟨by (with_reducible repeat (first | apply Kd.S_alloc | apply Kd.S_drewN | apply Kd.S_drew)); exact HO_6.out⟩, ⟨by (with_reducible repeat (first | apply Kd.S_alloc | apply Kd.S_drewN | apply Kd.S_drew)); exact HO_7.out⟩, ⟨kr_ HO_10.out⟩, ⟨by (with_reducible repeat (first | apply Kd.S_alloc | apply Kd.S_drewN | apply Kd.S_drew)); exact HO_24.out⟩, ⟨by (with_reducible repeat (first | apply Kd.S_alloc | apply Kd.S_drewN | apply Kd.S_drew)); exact HO_32.out⟩, ⟨kr_ HO_X9.out⟩, ⟨bl_ HB.out⟩⟩
               ·rw [if_neg c24] at H
                have c24b0 : (x26_1 == x34_2) = false := beq_eq_false_iff_ne.mpr c24; have c24b1 : (x26_1 != x34_2) = true := bne_iff_ne.mpr c24
                by_cases c25 : x13_3 = 2
                ·rw [if_pos c25] at H
                 have c25b0 : (x13_3 == 2) = true := beq_iff_eq.mpr c25; have c25b1 : (x13_3 != 2) = false := bne_eq_false_iff_eq.mpr c25; clear c25
                 by_cases c26 : x10_2.length < 17592186044416
                 ·rw [if_pos c26] at H
                  have LMc26 := Aside0.mk c26; clear c26; obtain ⟨y246, hy246⟩ : ∃ y_ : List Int, y_ = (x10_2 ++ [x34_2]) := ⟨_, rfl⟩; replace H : (impl_TrianglesBeside.l1 k3 t230 x7_1 x26_1 (rd_L1 t230 x26_1) y246 t230 (t230.length : Int) x26_1 t230 (t230.length : Int) (wrap64 (x34_2 + 1))) = some (r1, r2) := rh_ hy246 H; have Ny246 := Aside0.mk hy246; clear hy246; have H' := Aside0.mk H; clear H
                  go_wp2_with (first | ((with_reducible refine gate_builtin (b := .append) (xs := #[.tmp 58, .tmp 60]) rfl ?_); at_builtin; refine Kd.R_append (Kd.int .i64) (w0 := w) w.heap.size rfl (.tmp 58) (.tmp 60) 22 3 (.int .i64 0) 8 rfl Try.underlying22 info3 rfl (by decide) (by omega) u10 x10_2 x34_2 [.int .i64 x34_2] (fun _ => True) (fun _ => False) rfl rfl ?aP (fun _ hk => hk.elim) ?aF ?aO ?aB ?aS ?aL ?_; (case aP => exact rfl); (case aB => exact (bl_ HB.out)); (case aF => exact (fun _ _ => trivial)); (case aO => exact (kr_ HO_10.out)); (case aS => exact (below_size (bl_ HB.out))); (case aL => have := LMc26.out; omega); intro v247 w27 ho hb hg hat; rw [← Ny246.out] at ho; have X9_ := Aside0.mk (Kd.R_after (ok := (fun k_ => some k_ ≠ (u7 : Value).ownBlock)) (kr_ HO_X9.out) hg hat); clear HO_X9; have HO_X9 := X9_; clear X9_; have n0_ := Aside0.mk (Kd.S_after (ok := (fun k_ => some k_ ≠ (u7 : Value).ownBlock)) (by (with_reducible repeat (first | apply Kd.S_alloc | apply Kd.S_drewN | apply Kd.S_drew)); exact HO_6.out) hg hat); have n1_ := Aside0.mk (Kd.S_after (ok := (fun k_ => some k_ ≠ (.slice (some ad236) t230.length co10 : Value).ownBlock ∧ some k_ ≠ (.slice (some ad236) t230.length co10 : Value).ownBlock ∧ some k_ ≠ (.slice (some ad236) t230.length co10 : Value).ownBlock)) (by (with_reducible repeat (first | apply Kd.S_alloc | apply Kd.S_drewN | apply Kd.S_drew)); exact Kd.S_mono HO_7.out (fun _ hk => ⟨⟨hk.1, ⟨hk.2.2.1, hk.2.2.2⟩⟩, hk.2.1⟩)) hg hat); have n2_ := Aside0.mk (Kd.S_after (ok := (fun k_ => some k_ ≠ (u7 : Value).ownBlock)) (by (with_reducible repeat (first | apply Kd.S_alloc | apply Kd.S_drewN | apply Kd.S_drew)); exact HO_24.out) hg hat); have n3_ := Aside0.mk (Kd.S_after (ok := (fun k_ => some k_ ≠ (u7 : Value).ownBlock)) (by (with_reducible repeat (first | apply Kd.S_alloc | apply Kd.S_drewN | apply Kd.S_drew)); exact HO_32.out) hg hat); have n4_ := Aside0.mk (hb); have n5_ := Aside0.mk (ho); clear HO_6; clear HO_7; clear HO_24; clear HO_32; clear HB; clear HO_10; have HO_6 := n0_; have HO_7 := n1_; have HO_24 := n2_; have HO_32 := n3_; have HB := n4_; have HO248 := n5_; clear n0_ n1_ n2_ n3_ n4_ n5_; clear ho hb hg hat))
                  go_roundg k3
                  case measure => have := HK1.out; have := HK2.out; have := HK3.out; omega
                  case rel => exact ⟨(y246), (wrap64 (x34_2 + 1)), (fs_), H', ⟨by have := HK1.out; have := HK2.out; have := HK3.out; omega⟩, ⟨by (with_reducible repeat (first | apply Kd.S_alloc | apply Kd.S_drewN | apply Kd.S_drew)); exact HO_6.out⟩, ⟨by (with_reducible repeat (first | apply Kd.S_alloc | apply Kd.S_drewN | apply Kd.S_drew)); exact Kd.S_mono HO_7.out (fun _ hk => ⟨hk.1.1, ⟨hk.2, ⟨hk.1.2.1, hk.1.2.2⟩⟩⟩)⟩, ⟨kr_ HO248.out⟩, ⟨by (with_reducible repeat (first | apply Kd.S_alloc | apply Kd.S_drewN | apply Kd.S_drew)); exact HO_24.out⟩, ⟨by (with_reducible repeat (first | apply Kd.S_alloc | apply Kd.S_drewN | apply Kd.S_drew)); exact HO_32.out⟩, ⟨kr_ HO_X9.out⟩, ⟨bl_ HB.out⟩⟩
                 ·rw [if_neg c26] at H
                  exact absurd H (by simp)
                ·rw [if_neg c25] at H
                 have c25b0 : (x13_3 == 2) = false := beq_eq_false_iff_ne.mpr c25; have c25b1 : (x13_3 != 2) = true := bne_iff_ne.mpr c25; have H' := Aside0.mk H; clear H
                 go_wp2
                 go_roundg k3
                 case measure => have := HK1.out; have := HK2.out; have := HK3.out; omega
                 case rel => exact ⟨(x10_2), (wrap64 (x34_2 + 1)), (fs_), H', ⟨by have := HK1.out; have := HK2.out; have := HK3.out; omega⟩, ⟨by (with_reducible repeat (first | apply Kd.S_alloc | apply Kd.S_drewN | apply Kd.S_drew)); exact HO_6.out⟩, ⟨by (with_reducible repeat (first | apply Kd.S_alloc | apply Kd.S_drewN | apply Kd.S_drew)); exact HO_7.out⟩, ⟨kr_ HO_10.out⟩, ⟨by (with_reducible repeat (first | apply Kd.S_alloc | apply Kd.S_drewN | apply Kd.S_drew)); exact HO_24.out⟩, ⟨by (with_reducible repeat (first | apply Kd.S_alloc | apply Kd.S_drewN | apply Kd.S_drew)); exact HO_32.out⟩, ⟨kr_ HO_X9.out⟩, ⟨bl_ HB.out⟩⟩
           ·rw [if_neg c18] at H
            exact absurd H (by simp)
          ·rw [if_neg c17] at H
           exact absurd H (by simp)
         ·rw [if_neg c16] at H
          have c16b0 : decide (x34_2 < (t230.length : Int)) = false := decide_eq_false c16; clear c16
          by_cases c28 : x7_1.length < 5864062014805
          ·rw [if_pos c28] at H
           have LMc28 := Aside0.mk c28; clear c28; obtain ⟨y240, hy240⟩ : ∃ y_ : List (List Int), y_ = (x7_1 ++ [x10_2]) := ⟨_, rfl⟩; replace H : (impl_TrianglesBeside.l0 k2 t230 y240 t230 (t230.length : Int) (wrap64 (x26_1 + 1))) = some (r1, r2) := rh_ hy240 H; have Ny240 := Aside0.mk hy240; clear hy240; have H' := Aside0.mk H; clear H; obtain ⟨Ao30, co30, eo30⟩ := Kd.R_slice HO_10.out; subst eo30
           go_wp2_with (first | ((with_reducible refine gate_builtin (b := .append) (xs := #[.tmp 63, .tmp 65]) rfl ?_); at_builtin; refine Kd.S_append (Kd.slice 3 (Kd.int .i64)) (w0 := w) w.heap.size rfl (.tmp 63) (.tmp 65) 23 22 (.slice none 0 0) 24 rfl Try.underlying23 info22 rfl (by decide) (by omega) u7 x7_1 x10_2 [.slice Ao30 x10_2.length co30] (fun k_ => some k_ ≠ (.slice (some ad236) t230.length co10 : Value).ownBlock ∧ some k_ ≠ (.slice (some ad236) t230.length co10 : Value).ownBlock ∧ some k_ ≠ (.slice (some ad236) t230.length co10 : Value).ownBlock) (fun k_ => some k_ = (.slice Ao30 x10_2.length co30 : Value).ownBlock) rfl rfl ?aP (fun k_ hk_ => ((Kd.R_mono (ok' := fun k_ => ((fun k_ => some k_ ≠ (.slice (some ad236) t230.length co10 : Value).ownBlock ∧ some k_ ≠ (.slice (some ad236) t230.length co10 : Value).ownBlock ∧ some k_ ≠ (.slice (some ad236) t230.length co10 : Value).ownBlock)) k_ ∧ some k_ ≠ (u7 : Value).ownBlock) (Kd.R_apart' (Kd.R_apart' (Kd.R_apart' (Kd.R_apart' (HO_10.out) (Kd.S_typed HO_6.out) (by decide)) (Kd.S_typed HO_24.out) (by decide)) (Kd.S_typed HO_32.out) (by decide)) (Kd.S_typed HO_7.out) (by decide)) (fun k_ hk => ⟨⟨hk.1.1.1.2, ⟨hk.1.1.2, hk.1.2⟩⟩, hk.2⟩))).1 k_ hk_.symm) ?aF ?aO ?aB ?aS ?aL ?_; (case aP => exact Kd.M_row (Kd.R_mono (Kd.R_tight rfl (Kd.R_mono (ok' := fun k_ => ((fun k_ => some k_ ≠ (.slice (some ad236) t230.length co10 : Value).ownBlock ∧ some k_ ≠ (.slice (some ad236) t230.length co10 : Value).ownBlock ∧ some k_ ≠ (.slice (some ad236) t230.length co10 : Value).ownBlock)) k_ ∧ some k_ ≠ (u7 : Value).ownBlock) (Kd.R_apart' (Kd.R_apart' (Kd.R_apart' (Kd.R_apart' (HO_10.out) (Kd.S_typed HO_6.out) (by decide)) (Kd.S_typed HO_24.out) (by decide)) (Kd.S_typed HO_32.out) (by decide)) (Kd.S_typed HO_7.out) (by decide)) (fun k_ hk => ⟨⟨hk.1.1.1.2, ⟨hk.1.1.2, hk.1.2⟩⟩, hk.2⟩))) (fun _ h_ => h_))); (case aB => exact (bl_ HB.out)); (case aF => exact (fun k_ hk => ⟨Kd.fresh' (Kd.S_lt (by (with_reducible repeat (first | apply Kd.S_alloc | apply Kd.S_drewN | apply Kd.S_drew)); exact HO_6.out)) k_ hk, Kd.fresh' (Kd.S_lt (by (with_reducible repeat (first | apply Kd.S_alloc | apply Kd.S_drewN | apply Kd.S_drew)); exact HO_24.out)) k_ hk, Kd.fresh' (Kd.S_lt (by (with_reducible repeat (first | apply Kd.S_alloc | apply Kd.S_drewN | apply Kd.S_drew)); exact HO_32.out)) k_ hk⟩)); (case aO => exact (by (with_reducible repeat (first | apply Kd.S_alloc | apply Kd.S_drewN | apply Kd.S_drew)); exact Kd.S_mono HO_7.out (fun k_ hk => ⟨⟨hk.1, ⟨hk.2.2.1, hk.2.2.2⟩⟩, fun e_ => hk.2.1 e_⟩))); (case aS => exact (below_size (bl_ HB.out))); (case aL => have := LMc28.out; omega); intro v241 w29 ho hb hg hat; rw [← Ny240.out] at ho; have n0_ := Aside0.mk (Kd.S_after (ok := (fun k_ => some k_ ≠ (.slice Ao30 x10_2.length co30 : Value).ownBlock)) (by (with_reducible repeat (first | apply Kd.S_alloc | apply Kd.S_drewN | apply Kd.S_drew)); exact Kd.S_mono HO_6.out (fun _ hk => ⟨hk.2, hk.1⟩)) hg hat); have n1_ := Aside0.mk (Kd.S_after (ok := (fun k_ => some k_ ≠ (.slice Ao30 x10_2.length co30 : Value).ownBlock)) (by (with_reducible repeat (first | apply Kd.S_alloc | apply Kd.S_drewN | apply Kd.S_drew)); exact Kd.S_mono HO_24.out (fun _ hk => ⟨hk.2, hk.1⟩)) hg hat); have n2_ := Aside0.mk (Kd.S_after (ok := (fun k_ => some k_ ≠ (.slice Ao30 x10_2.length co30 : Value).ownBlock)) (by (with_reducible repeat (first | apply Kd.S_alloc | apply Kd.S_drewN | apply Kd.S_drew)); exact Kd.S_mono HO_32.out (fun _ hk => ⟨hk.2, hk.1⟩)) hg hat); have n3_ := Aside0.mk (hb); have n4_ := Aside0.mk (ho); clear HO_6; clear HO_24; clear HO_32; clear HB; clear HO_7; clear HO_10; have HO_6 := n0_; have HO_24 := n1_; have HO_32 := n2_; have HB := n3_; have HO242 := n4_; clear n0_ n1_ n2_ n3_ n4_; clear ho hb hg hat))
           go_roundg k2
           case measure => have := HK1.out; have := HK2.out; omega
           case rel => exact ⟨(y240), (wrap64 (x26_1 + 1)), (fs_), H', ⟨by have := HK1.out; have := HK2.out; omega⟩, ⟨by (with_reducible repeat (first | apply Kd.S_alloc | apply Kd.S_drewN | apply Kd.S_drew)); exact Kd.S_mono HO_6.out (fun _ hk => hk.2)⟩, ⟨by (with_reducible repeat (first | apply Kd.S_alloc | apply Kd.S_drewN | apply Kd.S_drew)); exact Kd.S_mono HO242.out (fun _ hk => ⟨hk.1, hk.2.1⟩)⟩, ⟨by (with_reducible repeat (first | apply Kd.S_alloc | apply Kd.S_drewN | apply Kd.S_drew)); exact Kd.S_mono HO_24.out (fun _ hk => hk.2)⟩, ⟨bl_ HB.out⟩⟩
          ·rw [if_neg c28] at H
           exact absurd H (by simp)
      ·rw [if_neg c13] at H
       exact absurd H (by simp)
     ·rw [if_neg c12] at H
      exact absurd H (by simp)
    ·rw [if_neg c11] at H
     have c11b0 : decide (x26_1 < (t230.length : Int)) = false := decide_eq_false c11; clear c11
     simp only [Option.some.injEq, Prod.mk.injEq] at H
     obtain ⟨rfl, rfl⟩ := H
     go_wp2
     go_ret2
     exact ⟨_, by first | rfl | (simp [errW_none, errW_some] <;> rfl) | (simp [*, errW_none, errW_some] <;> rfl), by (with_reducible repeat (first | apply Kd.S_alloc | apply Kd.S_drewN | apply Kd.S_drew)); exact Kd.S_mono HO_7.out (fun _ hk => trivial), bl_ HB.out⟩
 ·replace c4 := Bool.eq_false_iff.mpr c4
  subst c4; have H1 : (some (([] : List (List Int)), false)) = some (r1, r2) := by rw [if_neg (show ¬ (false = true) by decide)] at H; exact H
  clear H; have H := H1; clear H1
  simp only [Option.some.injEq, Prod.mk.injEq] at H
  obtain ⟨rfl, rfl⟩ := H
  go_enter Try.func43, Try.ntmps43
  go_wp2_with (first | ((with_reducible refine gate_callee (f := 23) rfl ?_); refine goesL_ (some 18) rfl rfl Try.func23 (by kernel_rfl) rfl #[.int .i64 a0, .slice A1 l1.length c1] rfl (by (try simp only [List.map_toArray, List.map_cons, List.map_nil]); first | done | rfl | (simp only [List.length_drop, List.length_take]; rfl)) ?_; (with_reducible refine (impl_IsTriangulation.calls k a0 _ _ l1 false _ ?side1 ?side2 A3.out).mono ?_); (case side1 => repeat (first | exact HR1.out | (with_reducible refine Kd.C_alloc ?_ _) | (with_reducible refine Kd.C_drewN ?_ _) | (with_reducible refine Kd.C_drew ?_))); (case side2 => exact HC1.out); rintro e w31 ⟨rfl, hb⟩; refine ⟨_, rfl, ?_⟩; have n0_ := Aside0.mk (below_step (bl_ HB.out) hb); clear HB; have HB := n0_; clear n0_; (try clear hb); (try clear hb2); (try clear hk); (try clear hi)))
  go_ret2
  exact ⟨_, by first | rfl | (simp [errW_none, errW_some] <;> rfl) | (simp [*, errW_none, errW_some] <;> rfl), by first | exact Kd.S_nil _ _ _ _ _ | exact Kd.N_nil _ _ _ _ _ | exact Kd.V_nil _ _ _ _ _ | exact Kd.Q_nil _ _ _ _ _ | exact Kd.R_nil _ _ _ _ _, bl_ HB.out⟩
end Go.Proofs.Ytmpmmhmnjdkgcab.PFnExactTrianglesBeside
