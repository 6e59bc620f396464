-- Written for this claim by a program of this session (wip/tools/xprint.py over the kit's printer, wip/tools/shrink.py).
import Derived.Test.YtcfcnnnkpdhecaaGreatPFnContinuantsSplitx0
import Derived.Test.YtcfcnnnkpdhecaaGreatPFnContinuantsSplitx1
import Derived.Test.YtcfcnnnkpdhecaaGreatPFnContinuantsSplitx3
import Derived.Test.YtcfcnnnkpdhecaaGreatPFnContinuantsSplitx4
import Derived.Test.YtcfcnnnkpdhecaaGreatPFnContinuantsSplitx5
namespace Go.Proofs.YtcfcnnnkpdhecaaGreat.PFnContinuantsSplit
open Go.RowKit Go.Proofs.YtcfcnnnkpdhecaaGreatW.PrintWords Go.Proofs.YtcfcnnnkpdhecaaGreatW.PrintLast Go.Proofs.YtcfcnnnkpdhecaaGreatW.PrintMore
attribute [local go_sem] max2_int min2_int max_two min_two max_three min_three max_four min_four   -- for this text's walks alone
set_option linter.unusedVariables false
set_option linter.unusedSimpArgs false
mutual
def spec_poOf.j0 : Nat → List Int → Bool → Option ((List (S80)) × Bool)
 | 0, _, _ => none
 | k + 1, x0, x21 => if x21 = true then (some (([] : List (S80)), false)) else ((spec_l1Own.f x0).bind fun t540 => (spec_poOf.l0 k t540 (([] : List Int)) (t540.length : Int) 0))
def spec_poOf.l0 : Nat → List Int → List Int → Int → Int → Option ((List (S80)) × Bool)
 | 0, _, _, _, _ => none
 | k + 1, x4, x5, x26, x27 => if x27 < x26 then (if x5.length < 17592186044416 then (spec_poOf.l0 k x4 (x5 ++ [x27]) x26 (wrap64 (x27 + 1))) else (none)) else (spec_poOf.l1 k x4 x5 ([] : List (S80)))
def spec_poOf.l1 : Nat → List Int → List Int → List (S80) → Option ((List (S80)) × Bool)
 | 0, _, _, _ => none
 | k + 1, x4, x5, x7 => if (x4.length : Int) > 3 then (spec_poOf.l2 k x4 x5 x7 (-1) x4 (x4.length : Int) 0) else ((spec_poSorted.f k x7).bind fun t549 => (if 0 < (x4.length : Int) then (if (rd x4 0) = 1 then (if 1 < (x4.length : Int) then (if (rd x4 1) = 1 then (if 2 < (x4.length : Int) then (some (t549, ((rd x4 2) == 1))) else (none)) else (some (t549, false))) else (none)) else (some (t549, false))) else (none)))
def spec_poOf.l2 : Nat → List Int → List Int → List (S80) → Int → List Int → Int → Int → Option ((List (S80)) × Bool)
 | 0, _, _, _, _, _, _, _ => none
 | k + 1, x4, x5, x7, x8, x38, x39, x40 => if x40 < x39 then (if 0 ≤ x40 then (if x40 < (x38.length : Int) then (if (rd x38 x40) = 1 then (if x8 < 0 then (spec_poOf.l2 k x4 x5 x7 x40 x38 x39 (wrap64 (x40 + 1))) else (spec_poOf.l2 k x4 x5 x7 x8 x38 x39 (wrap64 (x40 + 1)))) else (spec_poOf.l2 k x4 x5 x7 x8 x38 x39 (wrap64 (x40 + 1)))) else (none)) else (none)) else (if x8 < 0 then (some (([] : List (S80)), false)) else (if (x4.length : Int) = 0 then (none) else (if 0 ≤ (Int.tmod (wrap64 ((wrap64 (x8 + (x4.length : Int))) - 1)) (x4.length : Int)) then (if (Int.tmod (wrap64 ((wrap64 (x8 + (x4.length : Int))) - 1)) (x4.length : Int)) < (x4.length : Int) then ((some (x4.set ((Int.tmod (wrap64 ((wrap64 (x8 + (x4.length : Int))) - 1)) (x4.length : Int)) : Int).toNat (wrap64 ((rd x4 (Int.tmod (wrap64 ((wrap64 (x8 + (x4.length : Int))) - 1)) (x4.length : Int))) - 1)) : List Int)).bind fun y557 => (if 0 ≤ (Int.tmod (wrap64 (x8 + 1)) (x4.length : Int)) then (if (Int.tmod (wrap64 (x8 + 1)) (x4.length : Int)) < (x4.length : Int) then ((some (y557.set ((Int.tmod (wrap64 (x8 + 1)) (x4.length : Int)) : Int).toNat (wrap64 ((rd y557 (Int.tmod (wrap64 (x8 + 1)) (x4.length : Int))) - 1)) : List Int)).bind fun y559 => (if (rd y559 (Int.tmod (wrap64 ((wrap64 (x8 + (x4.length : Int))) - 1)) (x4.length : Int))) < 1 then (spec_poOf.j4 k y559 x5 x7 x8 (Int.tmod (wrap64 ((wrap64 (x8 + (x4.length : Int))) - 1)) (x4.length : Int)) (Int.tmod (wrap64 (x8 + 1)) (x4.length : Int)) true) else (spec_poOf.j4 k y559 x5 x7 x8 (Int.tmod (wrap64 ((wrap64 (x8 + (x4.length : Int))) - 1)) (x4.length : Int)) (Int.tmod (wrap64 (x8 + 1)) (x4.length : Int)) (decide ((rd y559 (Int.tmod (wrap64 (x8 + 1)) (x4.length : Int))) < 1))))) else (none)) else (none))) else (none)) else (none))))
def spec_poOf.j4 : Nat → List Int → List Int → List (S80) → Int → Int → Int → Bool → Option ((List (S80)) × Bool)
 | 0, _, _, _, _, _, _, _ => none
 | k + 1, x4, x5, x7, x8, x11, x12, x91 => if x91 = true then (some (([] : List (S80)), false)) else (if 0 ≤ x11 then (if x11 < (x5.length : Int) then (if 0 ≤ x12 then (if x12 < (x5.length : Int) then ((spec_l1Least.f (rd x5 x11) (rd x5 x12)).bind fun t564 => ((spec_l1Most.f (rd x5 x11) (rd x5 x12)).bind fun t567 => (if x7.length < 8796093022208 then (if 0 ≤ x8 then (if x8 ≤ (x4.length : Int) then ((spec_l1Own.f (x4.take (x8 : Int).toNat)).bind fun t575 => (if 0 ≤ (wrap64 (x8 + 1)) then (if (wrap64 (x8 + 1)) ≤ (x4.length : Int) then ((some (x4.drop ((wrap64 (x8 + 1)) : Int).toNat : List Int)).bind fun y578 => (if t575.length + y578.length < 17592186044416 then (if x8 ≤ (x5.length : Int) then ((spec_l1Own.f (x5.take (x8 : Int).toNat)).bind fun t589 => (if (wrap64 (x8 + 1)) ≤ (x5.length : Int) then ((some (x5.drop ((wrap64 (x8 + 1)) : Int).toNat : List Int)).bind fun y592 => (if t589.length + y592.length < 17592186044416 then (spec_poOf.l1 k (t575 ++ y578) (t589 ++ y592) (x7 ++ [(⟨t564, t567⟩ : S80)])) else (none))) else (none))) else (none)) else (none))) else (none)) else (none))) else (none)) else (none)) else (none)))) else (none)) else (none)) else (none)) else (none))
end
def spec_poOf.f (k : Nat) (l0 : List Int) : Option ((List (S80)) × Bool) := (spec_poIs.f (l0.length : Int)).bind fun t538 => (if t538 = true then ((spec_l1All.f k l0 1 12).bind fun t539 => (spec_poOf.j0 k l0 (!t539))) else (spec_poOf.j0 k l0 true))
def spec_poOf.T20 : Bool × List (List Nat × List Nat) := (true, [([], []), ([], []), ([1], [1]), ([0, 2], [0, 2]), ([3], [3]), ([], []), ([5], [5]), ([4, 6], [4, 6]), ([], []), ([8], [8]), ([], []), ([10], [10]), ([9, 11], [9, 11]), ([7, 0, 1, 2, 3, 4, 5, 6, 7], [7]), ([12, 13, 0, 1, 2, 3, 4, 5, 6, 7, 8, 9, 10, 11, 12, 13], [12])])
def spec_poOf.B20 : List Nat := [0, 0, 2, 7, 15, 0, 32, 127, 0, 256, 0, 1024, 3840, 255, 16383]
theorem spec_poOf.tab20 : rtab .any (opsOf Tryz.f65 20) = spec_poOf.T20 := by kernel_rfl
theorem spec_poOf.bits20 : waitsOk spec_poOf.T20.2 spec_poOf.B20 = true := by kernel_rfl
def spec_poOf.T25 : Bool × List (List Nat × List Nat) := (true, [([], []), ([], []), ([], []), ([1, 2], [1, 2]), ([3], [3]), ([], []), ([], []), ([5, 6], [5, 6]), ([7], [7]), ([4, 8], [4, 8]), ([], []), ([], []), ([10, 11], [10, 11]), ([12], [12]), ([], []), ([], []), ([14, 15], [14, 15]), ([16], [16]), ([13, 17, 9], [13, 17]), ([9, 18], [9, 18]), ([19], [19]), ([0, 20, 18], [0, 20]), ([21, 21, 0, 1, 2, 3, 4, 5, 6, 7, 8, 9, 10, 11, 12, 13, 14, 15, 16, 17, 18, 19, 20, 21], [0, 21])])
def spec_poOf.B25 : List Nat := [0, 0, 0, 6, 14, 0, 0, 96, 224, 510, 0, 0, 3072, 7168, 0, 0, 49152, 114688, 262142, 524286, 1048574, 2097151, 4194303]
theorem spec_poOf.tab25 : rtab .any (opsOf Tryz.f65 25) = spec_poOf.T25 := by kernel_rfl
theorem spec_poOf.bits25 : waitsOk spec_poOf.T25.2 spec_poOf.B25 = true := by kernel_rfl
def spec_poOf.T26 : Bool × List (List Nat × List Nat) := (true, [([], []), ([], []), ([0, 1], [0, 1]), ([2], [2]), ([], []), ([], []), ([5], [5]), ([4, 6], [4, 6]), ([3, 7, 3], [3, 7]), ([8, 8, 0, 1, 2, 3, 4, 5, 6, 7, 8], [0, 4, 8])])
def spec_poOf.B26 : List Nat := [0, 0, 3, 7, 0, 0, 32, 112, 255, 511]
theorem spec_poOf.tab26 : rtab .any (opsOf Tryz.f65 26) = spec_poOf.T26 := by kernel_rfl
theorem spec_poOf.bits26 : waitsOk spec_poOf.T26.2 spec_poOf.B26 = true := by kernel_rfl
def spec_poOf.T27 : Bool × List (List Nat × List Nat) := (true, [([], []), ([], []), ([0, 1], [0, 1]), ([2], [2]), ([], []), ([], []), ([5], [5]), ([4, 6], [4, 6]), ([3, 7, 3], [3, 7]), ([8, 8, 0, 1, 2, 3, 4, 5, 6, 7, 8], [0, 4, 8])])
def spec_poOf.B27 : List Nat := [0, 0, 3, 7, 0, 0, 32, 112, 255, 511]
theorem spec_poOf.tab27 : rtab .any (opsOf Tryz.f65 27) = spec_poOf.T27 := by kernel_rfl
theorem spec_poOf.bits27 : waitsOk spec_poOf.T27.2 spec_poOf.B27 = true := by kernel_rfl
def spec_poOf.T29 : Bool × List (List Nat × List Nat) := (true, [([], []), ([], []), ([1], [1]), ([2], [2]), ([3], [3]), ([4], [4]), ([5], [5]), ([6, 5], [5, 6]), ([7, 5], [5, 7]), ([8, 5], [5, 8]), ([5, 9], [5, 9]), ([10, 5], [10]), ([11], [11]), ([12, 11], [11, 12]), ([13, 11], [11, 13]), ([14, 11], [11, 14]), ([11, 15], [11, 15]), ([0, 11, 0], [0]), ([16, 17, 0, 1, 2, 3, 4, 5, 6, 7, 8, 9, 10, 11, 12, 13, 14, 15, 16, 17], [16])])
def spec_poOf.B29 : List Nat := [0, 0, 2, 6, 14, 30, 62, 126, 254, 510, 1022, 2046, 4094, 8190, 16382, 32766, 65534, 4095, 262143]
theorem spec_poOf.tab29 : rtab .any (opsOf Tryz.f65 29) = spec_poOf.T29 := by kernel_rfl
theorem spec_poOf.bits29 : waitsOk spec_poOf.T29.2 spec_poOf.B29 = true := by kernel_rfl
set_option maxHeartbeats 8000000 in
set_option maxRecDepth 100000 in
theorem spec_poOf.calls (k : Nat) (A0 : Option Addr) (c0 : Nat) (l0 : List Int) (r1 : List (S80)) (r2 : Bool) (w : World) (hr0 : Kd.C (Kd.int .i64) w A0 l0.length l0) (hc0 : l0.length ≤ c0) (h : spec_poOf.f k l0 = some (r1, r2)) :
  Calls Tryz.prog 65 #[.slice A0 l0.length c0] w fun e w' => ∃ v0_ : Value, e = .returned (.tuple #[v0_, .bool r2]) ∧ Kd.R k80 80 w' w.heap.size (fun _ => True) v0_ r1 ∧ Below w.heap.size w w' := by
 have hu80 := Tryz.underlying80; have HR0 := Aside0.mk hr0; have HC0 := Aside0.mk hc0; clear hr0 hc0; have HB := Aside0.mk (Below.refl w.heap.size w); have H : ((spec_poIs.f (l0.length : Int)).bind fun t538 => (if t538 = true then ((spec_l1All.f k l0 1 12).bind fun t539 => (spec_poOf.j0 k l0 (!t539))) else (spec_poOf.j0 k l0 true))) = some (r1, r2) := h
 clear h; have HC2 := Aside0.mk H; clear H
 go_enter Tryz.func65, Tryz.ntmps65
 go_upto_region 1 with (fail)
 go_cut [21] (fun v21 wc => ∃ (kq : Nat) (x21_1 : Bool), v21 = .bool x21_1 ∧ Aside0 (spec_poOf.j0 kq l0 x21_1 = some (r1, r2)) ∧ Aside0 (kq ≤ k) ∧ Aside0 (Below w.heap.size w wc))
 case first =>
  have H := HC2.out; clear HC2; replace H := Option.bind_eq_some_iff.mp H; obtain ⟨t538, A30, H⟩ := H; have A3 := Aside0.mk A30; clear A30
  by_cases c4 : t538 = true
  ·subst c4
   rw [if_pos rfl] at H
   replace H := Option.bind_eq_some_iff.mp H; obtain ⟨t539, A50, H⟩ := H; have A5 := Aside0.mk A50; clear A50; have H' := Aside0.mk H; clear H
   go_wp2_with (first | ((with_reducible refine gate_callee (f := 71) rfl ?_); refine gl_ (some 15) Tryz.func71 #[.int .i64 (l0.length : Int)] rfl ?_; (with_reducible refine (spec_poIs.calls (l0.length : Int) true _ A3.out).mono ?_); rintro e w' ⟨rfl, ⟨nd, rfl⟩⟩; refine ⟨_, rfl, ?_⟩) | (go_at_call 56; (with_reducible refine (spec_l1All.calls k _ _ l0 1 12 t539 _ ?side1 ?side2 A5.out).mono ?_); (case side1 => exact cc_ (Kd.C_below HR0.out (bl_ HB.out))); (case side2 => exact HC0.out); rintro e w' ⟨rfl, ⟨nd, rfl⟩⟩))
   go_meet
   case rel => exact ⟨_, (!t539), (fs_), H', ⟨by first | omega | exact Nat.le_refl _⟩, ⟨bl_ HB.out⟩⟩
  ·replace c4 := Bool.eq_false_iff.mpr c4
   subst c4; rw [if_neg (show ¬ (false = true) by decide)] at H
   have H' := Aside0.mk H; clear H
   go_wp2_with (first | ((with_reducible refine gate_callee (f := 71) rfl ?_); refine gl_ (some 15) Tryz.func71 #[.int .i64 (l0.length : Int)] rfl ?_; (with_reducible refine (spec_poIs.calls (l0.length : Int) false _ A3.out).mono ?_); rintro e w' ⟨rfl, ⟨nd, rfl⟩⟩; refine ⟨_, rfl, ?_⟩))
   go_meet
   case rel => exact ⟨_, (true), (fs_), H', ⟨by first | omega | exact Nat.le_refl _⟩, ⟨bl_ HB.out⟩⟩
 case rest =>
  clear HC2
  try clear p2
  try clear c4
  obtain ⟨kq, x21_1, rfl, HA, HJ1, HB⟩ := hcut
  cases kq with
  | zero => exact absurd HA.out (by simp [spec_poOf.j0])
  | succ kj1 =>
   have H := HA.out; clear HA
   simp only [spec_poOf.j0] at H
   by_cases c6 : x21_1 = true
   ·subst c6
    rw [if_pos rfl] at H
    simp only [Option.some.injEq, Prod.mk.injEq] at H
    obtain ⟨rfl, rfl⟩ := H
    go_wp2
    go_ret2
    exact ⟨_, by first | rfl | (simp [errW_none, errW_some] <;> rfl) | (simp [*, errW_none, errW_some] <;> rfl), by first | exact Kd.R_nil _ _ _ _ _ | exact Kd.N_nil _ _ _ _ _ | exact Kd.V_nil _ _ _ _ _ | exact Kd.Q_nil _ _ _ _ _ | exact Kd.S_nil _ _ _ _ _, bl_ HB.out⟩
   ·replace c6 := Bool.eq_false_iff.mpr c6
    subst c6; rw [if_neg (show ¬ (false = true) by decide)] at H
    replace H := Option.bind_eq_some_iff.mp H; obtain ⟨t540, A70, H⟩ := H; have A7 := Aside0.mk A70; clear A70; obtain ⟨y543, hy543⟩ : ∃ y_ : List Int, y_ = (([] : List Int)) := ⟨_, rfl⟩; replace H : (spec_poOf.l0 kj1 t540 y543 (t540.length : Int) 0) = some (r1, r2) := rh_ hy543 H; have Ny543 := Aside0.mk hy543; clear hy543; have H' := Aside0.mk H; clear H
    go_wp2_with (first | ((with_reducible refine gate_callee (f := 69) rfl ?_); refine gl_ (some 23) Tryz.func69 #[.slice A0 l0.length c0] rfl ?_; (with_reducible refine (spec_l1Own.calls _ _ l0 t540 _ ?side1 ?side2 A7.out).mono ?_); (case side1 => exact cc_ (Kd.C_below HR0.out HB.out)); (case side2 => exact HC0.out); rintro e w8 ⟨v541, rfl, ho0, hb⟩; refine ⟨_, rfl, ?_⟩; have HO542 := Aside0.mk (Kd.R_lower ho0 (below_size (bl_ HB.out))); replace HB := Aside0.mk (below_step (bl_ HB.out) hb); (try clear hb); (try clear hb2); (try clear hk); (try clear hi); (try clear ho0)) | ((with_reducible refine gate_dst (N := 24) rfl ?_); refine Kd.R_lit (Kd.int .i64) _ 3 ?hg (N := 24) ?hd (xs := ([] : List Int)) (inner := []) (ok := fun _ => True) (okp := fun _ => True) ?hr ?hp (fun _ hk => hk) trivial (Below.refl _ _) (Nat.le_refl _) (by simp) ?_; (case hd => rfl); (case hg => rfl); (case hr => first | (go_simp; done) | (go_simp; rfl)); (case hp => exact (Reps.none _ _)); intro v544 w9 ho10 hb hg_ hnew_; clear hg_ hnew_; (first | rw [← Ny543.out] at ho10 | (simp only [Int.reduceToNat] at ho10; rw [← Ny543.out] at ho10)); have HO545 := Aside0.mk (Kd.R_lower (Kd.R_new' ho10 (Kd.R_lt (kr_ HO542.out))) (below_size (bl_ HB.out))); replace HO542 := Aside0.mk (Kd.R_elder' (kr_ HO542.out) (Kd.R_base ho10) hb); replace HB := Aside0.mk (below_step (bl_ HB.out) hb); clear hb ho10; obtain ⟨Ao11, co11, eo11⟩ := Kd.R_slice HO542.out; subst eo11))
    go_loopg [5, 27] kj1 (fun kq v5 v27 w' => ∃ (x5_2 : List Int) (x27_2 : Int), v27 = .int .i64 x27_2 ∧ Aside0 (spec_poOf.l0 kq t540 x5_2 (t540.length : Int) x27_2 = some (r1, r2)) ∧ Aside0 (kq ≤ kj1) ∧ Aside0 (Kd.R (Kd.int .i64) 3 w' w.heap.size (fun k_ => some k_ ≠ (v5 : Value).ownBlock) (.slice Ao11 t540.length co11) t540) ∧ Aside0 (Kd.R (Kd.int .i64) 3 w' w.heap.size (fun k_ => some k_ ≠ ((.slice Ao11 t540.length co11) : Value).ownBlock) v5 x5_2) ∧ Aside0 (Below w.heap.size w w'))
    case atStart => exact ⟨(y543), (0), (fs_), H', ⟨Nat.le_refl _⟩, ⟨by (with_reducible repeat (first | apply Kd.R_alloc | apply Kd.R_drewN | apply Kd.R_drew)); exact Kd.R_mono HO542.out (fun _ hk => hk.2)⟩, ⟨by (with_reducible repeat (first | apply Kd.R_alloc | apply Kd.R_drewN | apply Kd.R_drew)); exact Kd.R_mono HO545.out (fun _ hk => hk.2)⟩, ⟨bl_ HB.out⟩⟩
    case round =>
     clear H'
     try clear p2
     try clear c4
     try clear c6
     try clear c7
     try clear p2
     obtain ⟨x5_2, x27_2, rfl, HA, HK2, HO_4, HO_5, HB⟩ := hrel
     cases gk with
     | zero => exact absurd HA.out (by simp [spec_poOf.l0])
     | succ k2 =>
      have H := HA.out; clear HA
      simp only [spec_poOf.l0] at H
      by_cases c12 : x27_2 < (t540.length : Int)
      ·rw [if_pos c12] at H
       have c12b0 : decide (x27_2 < (t540.length : Int)) = true := decide_eq_true c12; clear c12
       by_cases c13 : x5_2.length < 17592186044416
       ·rw [if_pos c13] at H
        have LMc13 := Aside0.mk c13; clear c13; obtain ⟨y546, hy546⟩ : ∃ y_ : List Int, y_ = (x5_2 ++ [x27_2]) := ⟨_, rfl⟩; replace H : (spec_poOf.l0 k2 t540 y546 (t540.length : Int) (wrap64 (x27_2 + 1))) = some (r1, r2) := rh_ hy546 H; have Ny546 := Aside0.mk hy546; clear hy546; have H' := Aside0.mk H; clear H
        go_wp2_with (first | ((with_reducible refine gate_builtin (b := .append) (xs := #[.tmp 30, .tmp 32]) rfl ?_); at_builtin; refine Kd.R_append (Kd.int .i64) (w0 := w) w.heap.size rfl (.tmp 30) (.tmp 32) 24 3 (.int .i64 0) 8 rfl Tryz.underlying24 info3 rfl (by decide) (by omega) u5 x5_2 x27_2 [.int .i64 x27_2] (fun k_ => some k_ ≠ (.slice Ao11 t540.length co11 : Value).ownBlock) (fun _ => False) rfl rfl ?aP (fun _ hk => hk.elim) ?aF ?aO ?aB ?aS ?aL ?_; (case aP => exact rfl); (case aB => exact (bl_ HB.out)); (case aF => exact (fun k_ hk => Kd.fresh' (Kd.R_lt (kr_ HO_4.out)) k_ hk)); (case aO => exact (kr_ HO_5.out)); (case aS => exact (below_size (bl_ HB.out))); (case aL => have := LMc13.out; omega); intro v547 w14 ho hb hg hat; rw [← Ny546.out] at ho; replace HO_4 := Aside0.mk (Kd.R_after (ok := (fun _ => True)) (by (with_reducible repeat (first | apply Kd.R_alloc | apply Kd.R_drewN | apply Kd.R_drew)); exact Kd.R_mono HO_4.out (fun _ hk => ⟨trivial, hk⟩)) hg hat); replace HB := Aside0.mk (hb); have HO548 := Aside0.mk (ho); clear HO_5 ho hb hg hat))
        go_roundg k2
        case measure => have := HJ1.out; have := HK2.out; omega
        case rel => exact ⟨(y546), (wrap64 (x27_2 + 1)), (fs_), H', ⟨by have := HJ1.out; have := HK2.out; omega⟩, ⟨by (with_reducible repeat (first | apply Kd.R_alloc | apply Kd.R_drewN | apply Kd.R_drew)); exact Kd.R_mono HO_4.out (fun _ hk => hk.2)⟩, ⟨kr_ HO548.out⟩, ⟨bl_ HB.out⟩⟩
       ·rw [if_neg c13] at H
        exact absurd H (by simp)
      ·rw [if_neg c12] at H
       have c12b0 : decide (x27_2 < (t540.length : Int)) = false := decide_eq_false c12; clear c12; have H' := Aside0.mk H; clear H
       go_wp2
       go_loopg [4, 5, 7] k2 (fun kq v4 v5 v7 w' => ∃ (x4_3 : List Int) (x5_3 : List Int) (x7_3 : List (S80)), Aside0 (spec_poOf.l1 kq x4_3 x5_3 x7_3 = some (r1, r2)) ∧ Aside0 (kq ≤ k2) ∧ Aside0 (Kd.R (Kd.int .i64) 3 w' w.heap.size (fun k_ => some k_ ≠ (v5 : Value).ownBlock) v4 x4_3) ∧ Aside0 (Kd.R (Kd.int .i64) 3 w' w.heap.size (fun k_ => some k_ ≠ (v4 : Value).ownBlock) v5 x5_3) ∧ Aside0 (Kd.R k80 80 w' w.heap.size (fun _ => True) v7 x7_3) ∧ Aside0 (Below w.heap.size w w'))
       case atStart => exact ⟨(t540), (x5_2), (([] : List (S80))), H', ⟨Nat.le_refl _⟩, ⟨kr_ HO_4.out⟩, ⟨kr_ HO_5.out⟩, ⟨by first | exact Kd.R_nil _ _ _ _ _ | exact Kd.N_nil _ _ _ _ _ | exact Kd.V_nil _ _ _ _ _ | exact Kd.Q_nil _ _ _ _ _ | exact Kd.S_nil _ _ _ _ _⟩, ⟨bl_ HB.out⟩⟩
       case round =>
        clear H'
        try clear c1
        try clear p2
        try clear c4
        try clear c6
        try clear p6
        try clear c7
        try clear c12
        try clear c12b0
        try clear c13
        try clear p2
        obtain ⟨x4_3, x5_3, x7_3, HA, HK3, HO_4, HO_5, HO_7, HB⟩ := hrel
        cases gk with
        | zero => exact absurd HA.out (by simp [spec_poOf.l1])
        | succ k3 =>
         have H := HA.out; clear HA
         simp only [spec_poOf.l1] at H
         by_cases c15 : (x4_3.length : Int) > 3
         ·rw [if_pos c15] at H
          have c15b0 : decide (3 < (x4_3.length : Int)) = true := decide_eq_true c15; have c15b1 : decide (3 < x4_3.length) = true := decide_eq_true (by omega)
          clear c15; have H' := Aside0.mk H; clear H; obtain ⟨Ao16, co16, eo16⟩ := Kd.R_slice HO_4.out; subst eo16
          go_wp2
          go_loopg [8, 40] k3 (fun kq v8 v40 w' => ∃ (x8_4 : Int) (x40_4 : Int), v8 = .int .i64 x8_4 ∧ v40 = .int .i64 x40_4 ∧ Aside0 (spec_poOf.l2 kq x4_3 x5_3 x7_3 x8_4 x4_3 (x4_3.length : Int) x40_4 = some (r1, r2)) ∧ Aside0 (kq ≤ k3) ∧ Aside0 (Kd.R (Kd.int .i64) 3 w' w.heap.size (fun k_ => some k_ ≠ (u5 : Value).ownBlock) (.slice Ao16 x4_3.length co16) x4_3) ∧ Aside0 (Kd.R (Kd.int .i64) 3 w' w.heap.size (fun k_ => some k_ ≠ ((.slice Ao16 x4_3.length co16) : Value).ownBlock ∧ some k_ ≠ ((.slice Ao16 x4_3.length co16) : Value).ownBlock) u5 x5_3) ∧ Aside0 (Kd.R k80 80 w' w.heap.size (fun _ => True) u7 x7_3) ∧ Aside0 (Kd.R (Kd.int .i64) 3 w' w.heap.size (fun k_ => some k_ ≠ (u5 : Value).ownBlock) (.slice Ao16 x4_3.length co16) x4_3) ∧ Aside0 (Below w.heap.size w w'))
          case atStart => exact ⟨((-1)), (0), (fs_), (fs_), H', ⟨Nat.le_refl _⟩, ⟨kr_ HO_4.out⟩, ⟨by (with_reducible repeat (first | apply Kd.R_alloc | apply Kd.R_drewN | apply Kd.R_drew)); exact Kd.R_mono HO_5.out (fun _ hk => ⟨hk, hk⟩)⟩, ⟨kr_ HO_7.out⟩, ⟨kr_ HO_4.out⟩, ⟨bl_ HB.out⟩⟩
          case round =>
           clear H'
           try clear c1
           try clear p2
           try clear c4
           try clear c6
           try clear p6
           try clear c7
           try clear c12
           try clear c12b0
           try clear c13
           try clear c15
           try clear c15b0
           try clear c15b1
           try clear p2
           try clear p6
           obtain ⟨x8_4, x40_4, rfl, rfl, HA, HK4, HO_4, HO_5, HO_7, HO_38, HB⟩ := hrel
           cases gk with
           | zero => exact absurd HA.out (by simp [spec_poOf.l2])
           | succ k4 =>
            have H := HA.out; clear HA
            simp only [spec_poOf.l2] at H
            by_cases c17 : x40_4 < (x4_3.length : Int)
            ·rw [if_pos c17] at H
             have c17b0 : decide (x40_4 < (x4_3.length : Int)) = true := decide_eq_true c17; clear c17
             by_cases c18 : 0 ≤ x40_4
             ·rw [if_pos c18] at H
              have c18b0 : decide (0 ≤ x40_4) = true := decide_eq_true c18; clear c18
              by_cases c19 : x40_4 < (x4_3.length : Int)
              ·rw [if_pos c19] at H
               have c19b0 : decide (x40_4 < (x4_3.length : Int)) = true := decide_eq_true c19; clear c19
               by_cases c20 : (rd x4_3 x40_4) = 1
               ·rw [if_pos c20] at H
                have c20b0 : ((rd x4_3 x40_4) == 1) = true := beq_iff_eq.mpr c20; have c20b1 : ((rd x4_3 x40_4) != 1) = false := bne_eq_false_iff_eq.mpr c20; clear c20
                by_cases c21 : x8_4 < 0
                ·rw [if_pos c21] at H
                 have c21b0 : decide (x8_4 < 0) = true := decide_eq_true c21; clear c21; have H' := Aside0.mk H; clear H; have p555 : 0 ≤ (x40_4 : Int) := of_decide_eq_true as_; have q555 : x40_4 < (x4_3.length : Int) := of_decide_eq_true as_; obtain ⟨ad555, e555, hx555_0⟩ := Kd.at_int (Kd.R_reads' HO_38.out).2.2 x40_4 p555 q555
                 cases e555
                 replace p555 := eq_true p555; replace q555 := eq_true q555
                 go_wp2
                 go_roundg k4
                 case measure => have := HJ1.out; have := HK2.out; have := HK3.out; have := HK4.out; omega
                 case rel => exact ⟨(x40_4), (wrap64 (x40_4 + 1)), (fs_), (fs_), H', ⟨by have := HJ1.out; have := HK2.out; have := HK3.out; have := HK4.out; omega⟩, ⟨kr_ HO_4.out⟩, ⟨kr_ HO_5.out⟩, ⟨kr_ HO_7.out⟩, ⟨kr_ HO_38.out⟩, ⟨bl_ HB.out⟩⟩
                ·rw [if_neg c21] at H
                 have c21b0 : decide (x8_4 < 0) = false := decide_eq_false c21; clear c21; have H' := Aside0.mk H; clear H; have p555 : 0 ≤ (x40_4 : Int) := of_decide_eq_true as_; have q555 : x40_4 < (x4_3.length : Int) := of_decide_eq_true as_; obtain ⟨ad555, e555, hx555_0⟩ := Kd.at_int (Kd.R_reads' HO_38.out).2.2 x40_4 p555 q555
                 cases e555
                 replace p555 := eq_true p555; replace q555 := eq_true q555
                 go_wp2
                 go_roundg k4
                 case measure => have := HJ1.out; have := HK2.out; have := HK3.out; have := HK4.out; omega
                 case rel => exact ⟨(x8_4), (wrap64 (x40_4 + 1)), (fs_), (fs_), H', ⟨by have := HJ1.out; have := HK2.out; have := HK3.out; have := HK4.out; omega⟩, ⟨kr_ HO_4.out⟩, ⟨kr_ HO_5.out⟩, ⟨kr_ HO_7.out⟩, ⟨kr_ HO_38.out⟩, ⟨bl_ HB.out⟩⟩
               ·rw [if_neg c20] at H
                have c20b0 : ((rd x4_3 x40_4) == 1) = false := beq_eq_false_iff_ne.mpr c20; have c20b1 : ((rd x4_3 x40_4) != 1) = true := bne_iff_ne.mpr c20; have H' := Aside0.mk H; clear H; have p555 : 0 ≤ (x40_4 : Int) := of_decide_eq_true as_; have q555 : x40_4 < (x4_3.length : Int) := of_decide_eq_true as_; obtain ⟨ad555, e555, hx555_0⟩ := Kd.at_int (Kd.R_reads' HO_38.out).2.2 x40_4 p555 q555
                cases e555
                replace p555 := eq_true p555; replace q555 := eq_true q555
                go_wp2
                go_roundg k4
                case measure => have := HJ1.out; have := HK2.out; have := HK3.out; have := HK4.out; omega
                case rel => exact ⟨(x8_4), (wrap64 (x40_4 + 1)), (fs_), (fs_), H', ⟨by have := HJ1.out; have := HK2.out; have := HK3.out; have := HK4.out; omega⟩, ⟨kr_ HO_4.out⟩, ⟨kr_ HO_5.out⟩, ⟨kr_ HO_7.out⟩, ⟨kr_ HO_38.out⟩, ⟨bl_ HB.out⟩⟩
              ·rw [if_neg c19] at H
               exact absurd H (by simp)
             ·rw [if_neg c18] at H
              exact absurd H (by simp)
            ·rw [if_neg c17] at H
             have c17b0 : decide (x40_4 < (x4_3.length : Int)) = false := decide_eq_false c17; clear c17
             by_cases c22 : x8_4 < 0
             ·rw [if_pos c22] at H
              have c22b0 : decide (x8_4 < 0) = true := decide_eq_true c22; clear c22
              simp only [Option.some.injEq, Prod.mk.injEq] at H
              obtain ⟨rfl, rfl⟩ := H
              go_wp2
              go_ret2
              exact ⟨_, by first | rfl | (simp [errW_none, errW_some] <;> rfl) | (simp [*, errW_none, errW_some] <;> rfl), by first | exact Kd.R_nil _ _ _ _ _ | exact Kd.N_nil _ _ _ _ _ | exact Kd.V_nil _ _ _ _ _ | exact Kd.Q_nil _ _ _ _ _ | exact Kd.S_nil _ _ _ _ _, bl_ HB.out⟩
             ·rw [if_neg c22] at H
              have c22b0 : decide (x8_4 < 0) = false := decide_eq_false c22; clear c22
              by_cases c23 : (x4_3.length : Int) = 0
              ·rw [if_pos c23] at H
               exact absurd H (by simp)
              ·rw [if_neg c23] at H
               have c23b0 : ((x4_3.length : Int) == 0) = false := beq_eq_false_iff_ne.mpr c23; have c23b1 : ((x4_3.length : Int) != 0) = true := bne_iff_ne.mpr c23; have c23b2 : ¬ (x4_3 = []) := fun h_ => c23 (by rw [h_]; rfl)
               obtain ⟨ji24, hji24⟩ : ∃ j_ : Int, (Int.tmod (wrap64 ((wrap64 (x8_4 + (x4_3.length : Int))) - 1)) (x4_3.length : Int)) = j_ := ⟨_, rfl⟩; replace H : (if 0 ≤ (ji24) then (if (ji24) < (x4_3.length : Int) then ((some (x4_3.set ((ji24) : Int).toNat (wrap64 ((rd x4_3 (ji24)) - 1)) : List Int)).bind fun y557 => (if 0 ≤ (Int.tmod (wrap64 (x8_4 + 1)) (x4_3.length : Int)) then (if (Int.tmod (wrap64 (x8_4 + 1)) (x4_3.length : Int)) < (x4_3.length : Int) then ((some (y557.set ((Int.tmod (wrap64 (x8_4 + 1)) (x4_3.length : Int)) : Int).toNat (wrap64 ((rd y557 (Int.tmod (wrap64 (x8_4 + 1)) (x4_3.length : Int))) - 1)) : List Int)).bind fun y559 => (if (rd y559 (ji24)) < 1 then (spec_poOf.j4 k4 y559 x5_3 x7_3 x8_4 ji24 (Int.tmod (wrap64 (x8_4 + 1)) (x4_3.length : Int)) true) else (spec_poOf.j4 k4 y559 x5_3 x7_3 x8_4 ji24 (Int.tmod (wrap64 (x8_4 + 1)) (x4_3.length : Int)) (decide ((rd y559 (Int.tmod (wrap64 (x8_4 + 1)) (x4_3.length : Int))) < 1))))) else (none)) else (none))) else (none)) else (none)) = some (r1, r2) := by first | (rw [hji24] at H; exact H) | (simp only [hji24] at H ⊢; exact H)
               by_cases c25 : 0 ≤ (ji24)
               ·rw [if_pos c25] at H
                have c25b0 : decide (0 ≤ (ji24)) = true := decide_eq_true c25; clear c25
                by_cases c26 : (ji24) < (x4_3.length : Int)
                ·rw [if_pos c26] at H
                 have c26b0 : decide ((ji24) < (x4_3.length : Int)) = true := decide_eq_true c26; clear c26; obtain ⟨y557, hy557⟩ : ∃ y_ : List Int, y_ = (x4_3.set ((ji24) : Int).toNat (wrap64 ((rd x4_3 (ji24)) - 1))) := ⟨_, rfl⟩; replace H : (if 0 ≤ (Int.tmod (wrap64 (x8_4 + 1)) (x4_3.length : Int)) then (if (Int.tmod (wrap64 (x8_4 + 1)) (x4_3.length : Int)) < (x4_3.length : Int) then ((some (y557.set ((Int.tmod (wrap64 (x8_4 + 1)) (x4_3.length : Int)) : Int).toNat (wrap64 ((rd y557 (Int.tmod (wrap64 (x8_4 + 1)) (x4_3.length : Int))) - 1)) : List Int)).bind fun y559 => (if (rd y559 (ji24)) < 1 then (spec_poOf.j4 k4 y559 x5_3 x7_3 x8_4 ji24 (Int.tmod (wrap64 (x8_4 + 1)) (x4_3.length : Int)) true) else (spec_poOf.j4 k4 y559 x5_3 x7_3 x8_4 ji24 (Int.tmod (wrap64 (x8_4 + 1)) (x4_3.length : Int)) (decide ((rd y559 (Int.tmod (wrap64 (x8_4 + 1)) (x4_3.length : Int))) < 1))))) else (none)) else (none)) = some (r1, r2) := rh_ hy557 H
                 have Ny557 := Aside0.mk hy557; clear hy557; obtain ⟨ji28, hji28⟩ : ∃ j_ : Int, (Int.tmod (wrap64 (x8_4 + 1)) (x4_3.length : Int)) = j_ := ⟨_, rfl⟩; replace H : (if 0 ≤ (ji28) then (if (ji28) < (x4_3.length : Int) then ((some (y557.set ((ji28) : Int).toNat (wrap64 ((rd y557 (ji28)) - 1)) : List Int)).bind fun y559 => (if (rd y559 (ji24)) < 1 then (spec_poOf.j4 k4 y559 x5_3 x7_3 x8_4 ji24 ji28 true) else (spec_poOf.j4 k4 y559 x5_3 x7_3 x8_4 ji24 ji28 (decide ((rd y559 (ji28)) < 1))))) else (none)) else (none)) = some (r1, r2) := by first | (rw [hji28] at H; exact H) | (simp only [hji28] at H ⊢; exact H)
                 by_cases c29 : 0 ≤ (ji28)
                 ·rw [if_pos c29] at H
                  have c29b0 : decide (0 ≤ (ji28)) = true := decide_eq_true c29; clear c29
                  by_cases c30 : (ji28) < (x4_3.length : Int)
                  ·rw [if_pos c30] at H
                   have c30b0 : decide ((ji28) < (x4_3.length : Int)) = true := decide_eq_true c30; clear c30; obtain ⟨y559, hy559⟩ : ∃ y_ : List Int, y_ = (y557.set ((ji28) : Int).toNat (wrap64 ((rd y557 (ji28)) - 1))) := ⟨_, rfl⟩; replace H : (if (rd y559 (ji24)) < 1 then (spec_poOf.j4 k4 y559 x5_3 x7_3 x8_4 ji24 ji28 true) else (spec_poOf.j4 k4 y559 x5_3 x7_3 x8_4 ji24 ji28 (decide ((rd y559 (ji28)) < 1)))) = some (r1, r2) := rh_ hy559 H
                   have Ny559 := Aside0.mk hy559; clear hy559; have HC32 := Aside0.mk H; clear H
                   try go_wp2
                   replace HO_4 := Aside0.mk (Kd.R_drew HO_4.out); replace HO_5 := Aside0.mk (Kd.R_drew HO_5.out); replace HO_7 := Aside0.mk (Kd.R_drew HO_7.out); replace HO_38 := Aside0.mk (Kd.R_drew HO_38.out); replace HB := Aside0.mk (below_drew1 HB.out); refine start_ (n := 15) (S := fun w' => True) (ds := []) #[false, false, false, false, false, false, false, false, false, false, false, false, false, false, false] (by kernel_rfl) rfl rfl trivial (fun hHeld => ?_); refine with_tabW spec_poOf.tab20 spec_poOf.bits20 (fun HT_ HW_ => ?_)
                   generalize wr.drew = w33 at HO_4 HO_5 HO_7 HO_38 HB hHeld ⊢
                   refine pa_ 0 (some 55) rfl rfl HT_ ?_; refine pa_ 1 (some 56) rfl rfl HT_ ?_; refine pa_ 2 (some 57) rfl rfl HT_ ?_; refine pa_ 3 (some 58) rfl rfl HT_ ?_; refine pa_ 4 (some 59) rfl rfl HT_ ?_; refine pa_ 5 (some 60) rfl rfl HT_ ?_; refine pa_ 6 (some 61) rfl rfl HT_ ?_; refine pa_ 7 (some 62) rfl rfl HT_ ?_; refine pa_ 8 (some 63) rfl rfl HT_ ?_; refine pa_ 9 (some 64) rfl rfl HT_ ?_; refine pa_ 10 (some 65) rfl rfl HT_ ?_; refine pa_ 11 (some 66) rfl rfl HT_ ?_; refine pa_ 12 (some 67) rfl rfl HT_ ?_; refine pa_ 13 (some 11) rfl rfl HT_ ?_; refine pa_ 14 (some 12) rfl rfl HT_ ?_; refine done_ (done_of HT_.out (by kernel_rfl)) ?_
                   have p556 : 0 ≤ ((ji24) : Int) := of_decide_eq_true as_; have q556 : (ji24) < (x4_3.length : Int) := of_decide_eq_true as_; obtain ⟨ad556, e556, hx556_0⟩ := Kd.at_int (Kd.R_reads' HO_4.out).2.2 (ji24) p556 q556
                   cases e556
                   replace p556 := eq_true p556; replace q556 := eq_true q556; have p27 : 0 ≤ ((ji24) : Int) := of_decide_eq_true as_; have q27 : ((ji24) : Int) < ((x4_3.length : Int) : Int) := of_decide_eq_true as_; obtain ⟨go27, co27, eo27, gb27, gl27, cl27, HG27⟩ := Kd.R_form HO_4.out (by omega)
                   (first | cases eo27 | (injection eo27 with ea_ en_ ec_; (first | subst ea_ | (injection ea_ with ea_; subst ea_)); subst ec_; clear en_))
                   have GB27 := Aside0.mk gb27; have GG27 := Aside0.mk HG27; clear gb27 gl27 HG27
                   (first | simp only [add_plain] at hx556_0 | skip)
                   obtain ⟨hx27_0, hf27_0⟩ := Kd.R_celln 0 HO_4.out ((ji24) : Int) p27 q27; replace p27 := eq_true p27; replace q27 := eq_true q27; obtain ⟨hy34_, hz34_⟩ := Kd.R_celln 0 HO_4.out ((ji24) : Int) (of_decide_eq_true as_) (of_decide_eq_true as_); have HP34 := Kd.R_putg HO_4.out ((ji24) : Int) (wrap64 ((rd x4_3 (ji24)) - 1))
                   go_upto_region 23 with (first | ((with_reducible refine gate_store (t := 3) (p := 73) rfl ?_); refine store_event (t := 3) (p := 73) (v := ?vo_w35) (w1 := (w33.setCell ⟨go27, ((ji24) : Int).toNat, none⟩ (.int .i64 (wrap64 ((rd x4_3 (ji24)) - 1))))) ?hg ?ho ?hn ?hr ?_; (case ho => rfl); (case hg => rfl); (case hn => rfl); (case hr => first | (go_simp; done) | (go_simp; rfl)); intro w35 hw; have hg : w33.grownBy w35 (some go27) := (by rw [hw]; exact HP34.2); have hp_ : Kd.R (Kd.int .i64) 3 w35 w.heap.size (fun k_ => some k_ ≠ (u5 : Value).ownBlock) (.slice (some ⟨go27, 0, none⟩) x4_3.length co16) y557 := (by rw [hw, Ny557.out]; exact HP34.1); clear HP34; replace HO_5 := Aside0.mk (Kd.R_after (v := (.slice (some ⟨go27, 0, none⟩) x4_3.length co16)) (v1 := (.slice (some ⟨go27, 0, none⟩) x4_3.length co16)) (ok := (fun k_ => some k_ ≠ (.slice (some ⟨go27, 0, none⟩) x4_3.length co16 : Value).ownBlock)) (by (with_reducible repeat (first | apply Kd.R_alloc | apply Kd.R_drewN | apply Kd.R_drew)); exact Kd.R_mono HO_5.out (fun _ hk => ⟨hk.2, hk.1⟩)) hg (.inl rfl)); replace HO_7 := Aside0.mk (Kd.R_over' (v := (.slice (some ⟨go27, 0, none⟩) x4_3.length co16)) (kr_ HO_7.out) (Kd.R_typed HO_4.out) (by decide) hg); replace HO_4 := Aside0.mk (hp_); replace HO_38 := Aside0.mk (True.intro); replace HB := Aside0.mk ((by rw [hw]; exact below_set (HB.out) GB27.out : Below w.heap.size w w35)); clear hg hw hp_; have p558 : 0 ≤ ((ji28) : Int) := of_decide_eq_true as_; have q558 : (ji28) < (y557.length : Int) := (by have h_ : ((ji28) : Int) < ((x4_3.length : Int) : Int) := of_decide_eq_true as_; first | (have e_ := (Kd.R_reads' HO_4.out).1; omega) | simpa only [Ny557.out, List.length_set] using h_); have ql558 : (((ji28) : Int) < ((x4_3.length : Int) : Int)) = True := eq_true (of_decide_eq_true as_); obtain ⟨ad558, e558, hx558_0⟩ := Kd.at_int (Kd.R_reads' HO_4.out).2.2 (ji28) p558 q558; obtain rfl : (⟨go27, 0, none⟩ : Addr) = ad558 := (by injection e558); (first | simp only [add_plain] at hx558_0 | simp only [add_at] at hx558_0 | simp only [Addr.add, Nat.zero_add] at hx558_0 | skip); replace p558 := eq_true p558; replace q558 := eq_true q558; have p31 : 0 ≤ ((ji28) : Int) := of_decide_eq_true as_; have q31 : ((ji28) : Int) < ((x4_3.length : Int) : Int) := of_decide_eq_true as_; obtain ⟨hx31_0, hf31_0⟩ := Kd.R_celln 0 HO_4.out ((ji28) : Int) p31 q31; replace p31 := eq_true p31; replace q31 := eq_true q31; obtain ⟨hy36_, hz36_⟩ := Kd.R_celln 0 HO_4.out ((ji28) : Int) (of_decide_eq_true as_) (of_decide_eq_true as_); have HP36 := Kd.R_putg HO_4.out ((ji28) : Int) (wrap64 ((rd y557 (ji28)) - 1))) | ((with_reducible refine gate_store (t := 3) (p := 79) rfl ?_); refine store_event (t := 3) (p := 79) (v := ?vo_w37) (w1 := (w35.setCell ⟨go27, ((ji28) : Int).toNat, none⟩ (.int .i64 (wrap64 ((rd y557 (ji28)) - 1))))) ?hg ?ho ?hn ?hr ?_; (case ho => rfl); (case hg => rfl); (case hn => rfl); (case hr => first | (go_simp; done) | (go_simp; rfl)); intro w37 hw; have hg : w35.grownBy w37 (some go27) := (by rw [hw]; exact HP36.2); have hp_ : Kd.R (Kd.int .i64) 3 w37 w.heap.size (fun k_ => some k_ ≠ (u5 : Value).ownBlock) (.slice (some ⟨go27, 0, none⟩) x4_3.length co16) y559 := (by rw [hw, Ny559.out]; exact HP36.1); clear HP36; replace HO_5 := Aside0.mk (Kd.R_after (v := (.slice (some ⟨go27, 0, none⟩) x4_3.length co16)) (v1 := (.slice (some ⟨go27, 0, none⟩) x4_3.length co16)) (ok := (fun k_ => some k_ ≠ (.slice (some ⟨go27, 0, none⟩) x4_3.length co16 : Value).ownBlock)) (kr_ HO_5.out) hg (.inl rfl)); replace HO_7 := Aside0.mk (Kd.R_over' (v := (.slice (some ⟨go27, 0, none⟩) x4_3.length co16)) (kr_ HO_7.out) (Kd.R_typed HO_4.out) (by decide) hg); replace HO_4 := Aside0.mk (hp_); replace HO_38 := Aside0.mk (True.intro); replace HB := Aside0.mk ((by rw [hw]; exact below_set (HB.out) GB27.out : Below w.heap.size w w37)); clear hg hw hp_))
                   (try simp only [Act.put, List.setIfInBounds_toArray, List.set_cons_zero, List.set_cons_succ])
                   go_cut [91] (fun v91 wc => ∃ (kq : Nat) (x91_31 : Bool), v91 = .bool x91_31 ∧ Aside0 (spec_poOf.j4 kq y559 x5_3 x7_3 x8_4 ji24 ji28 x91_31 = some (r1, r2)) ∧ Aside0 (kq ≤ k4) ∧ Aside0 (Kd.R (Kd.int .i64) 3 wc w.heap.size (fun k_ => some k_ ≠ (u5 : Value).ownBlock) (.slice (some ⟨go27, 0, none⟩) x4_3.length co16) y559) ∧ Aside0 (Kd.R (Kd.int .i64) 3 wc w.heap.size (fun k_ => some k_ ≠ ((.slice (some ⟨go27, 0, none⟩) x4_3.length co16) : Value).ownBlock) u5 x5_3) ∧ Aside0 (Kd.R k80 80 wc w.heap.size (fun _ => True) u7 x7_3) ∧ Aside0 (Below w.heap.size w wc))
                   case first =>
                    have H := HC32.out; clear HC32
                    by_cases c38 : (rd y559 (ji24)) < 1
                    ·rw [if_pos c38] at H
                     have c38b0 : decide ((rd y559 (ji24)) < 1) = true := decide_eq_true c38; clear c38
                     (first | rw [c38b0] | (simp only [i64_w, i32_w]; rw [c38b0]) | skip)
                     have H' := Aside0.mk H; clear H; have p560 : 0 ≤ ((ji24) : Int) := of_decide_eq_true as_; have q560 : (ji24) < (y559.length : Int) := (by have h_ : ((ji24) : Int) < ((x4_3.length : Int) : Int) := of_decide_eq_true as_; first | (have e_ := (Kd.R_reads' HO_4.out).1; omega) | simpa only [Ny557.out, Ny559.out, List.length_set] using h_)
                     have ql560 : (((ji24) : Int) < ((x4_3.length : Int) : Int)) = True := eq_true (of_decide_eq_true as_); obtain ⟨ad560, e560, hx560_0⟩ := Kd.at_int (Kd.R_reads' HO_4.out).2.2 (ji24) p560 q560; obtain rfl : (⟨go27, 0, none⟩ : Addr) = ad560 := (by injection e560)
                     (first | simp only [add_plain] at hx560_0 | simp only [add_at] at hx560_0 | simp only [Addr.add, Nat.zero_add] at hx560_0 | skip)
                     replace p560 := eq_true p560; replace q560 := eq_true q560
                     go_wp2
                     go_meet
                     case rel => exact ⟨_, (true), (fs_), H', ⟨by have := HJ1.out; have := HK2.out; have := HK3.out; have := HK4.out; first | omega | exact Nat.le_refl _⟩, ⟨kr_ HO_4.out⟩, ⟨by (with_reducible repeat (first | apply Kd.R_alloc | apply Kd.R_drewN | apply Kd.R_drew)); exact Kd.R_mono HO_5.out (fun _ hk => hk.2)⟩, ⟨kr_ HO_7.out⟩, ⟨bl_ HB.out⟩⟩
                    ·rw [if_neg c38] at H
                     have c38b0 : decide ((rd y559 (ji24)) < 1) = false := decide_eq_false c38; clear c38
                     (first | rw [c38b0] | (simp only [i64_w, i32_w]; rw [c38b0]) | skip)
                     have H' := Aside0.mk H; clear H; have p560 : 0 ≤ ((ji24) : Int) := of_decide_eq_true as_; have q560 : (ji24) < (y559.length : Int) := (by have h_ : ((ji24) : Int) < ((x4_3.length : Int) : Int) := of_decide_eq_true as_; first | (have e_ := (Kd.R_reads' HO_4.out).1; omega) | simpa only [Ny557.out, Ny559.out, List.length_set] using h_)
                     have ql560 : (((ji24) : Int) < ((x4_3.length : Int) : Int)) = True := eq_true (of_decide_eq_true as_); obtain ⟨ad560, e560, hx560_0⟩ := Kd.at_int (Kd.R_reads' HO_4.out).2.2 (ji24) p560 q560; obtain rfl : (⟨go27, 0, none⟩ : Addr) = ad560 := (by injection e560)
                     (first | simp only [add_plain] at hx560_0 | simp only [add_at] at hx560_0 | simp only [Addr.add, Nat.zero_add] at hx560_0 | skip)
                     replace p560 := eq_true p560; replace q560 := eq_true q560; have p561 : 0 ≤ ((ji28) : Int) := of_decide_eq_true as_; have q561 : (ji28) < (y559.length : Int) := (by have h_ : ((ji28) : Int) < ((x4_3.length : Int) : Int) := of_decide_eq_true as_; first | (have e_ := (Kd.R_reads' HO_4.out).1; omega) | simpa only [Ny557.out, Ny559.out, List.length_set] using h_)
                     have ql561 : (((ji28) : Int) < ((x4_3.length : Int) : Int)) = True := eq_true (of_decide_eq_true as_); obtain ⟨ad561, e561, hx561_0⟩ := Kd.at_int (Kd.R_reads' HO_4.out).2.2 (ji28) p561 q561; obtain rfl : (⟨go27, 0, none⟩ : Addr) = ad561 := (by injection e561)
                     (first | simp only [add_plain] at hx561_0 | simp only [add_at] at hx561_0 | simp only [Addr.add, Nat.zero_add] at hx561_0 | skip)
                     replace p561 := eq_true p561; replace q561 := eq_true q561
                     go_wp2
                     go_meet
                     case rel => exact ⟨_, (decide ((rd y559 (ji28)) < 1)), (by first | rfl | (simp; done) | (simp only [← hji28] <;> (first | rfl | simp)) | (simp [*]; done)), H', ⟨by have := HJ1.out; have := HK2.out; have := HK3.out; have := HK4.out; first | omega | exact Nat.le_refl _⟩, ⟨kr_ HO_4.out⟩, ⟨by (with_reducible repeat (first | apply Kd.R_alloc | apply Kd.R_drewN | apply Kd.R_drew)); exact Kd.R_mono HO_5.out (fun _ hk => hk.2)⟩, ⟨kr_ HO_7.out⟩, ⟨bl_ HB.out⟩⟩
                   case rest =>
                    clear HC32
                    try clear c1
                    try clear c2
                    try clear p2
                    try clear q2
                    try clear hx2
                    try clear hf2
                    try clear c3
                    try clear p3
                    try clear q3
                    try clear hx3
                    try clear hf3
                    try clear c4
                    try clear p5
                    try clear q5
                    try clear hx5
                    try clear c6
                    try clear p6
                    try clear c7
                    try clear c12
                    try clear c12b0
                    try clear c13
                    try clear c15
                    try clear c15b0
                    try clear c15b1
                    try clear c17
                    try clear c17b0
                    try clear c18
                    try clear c18b0
                    try clear c19
                    try clear c19b0
                    try clear c20
                    try clear c20b0
                    try clear c20b1
                    try clear c21
                    try clear c21b0
                    try clear c22
                    try clear c22b0
                    try clear c23
                    try clear c23b0
                    try clear c23b1
                    try clear c23b2
                    try clear c25
                    try clear c25b0
                    try clear c26
                    try clear c26b0
                    try clear p27
                    try clear q27
                    try clear hx27
                    try clear hf27
                    try clear c29
                    try clear c29b0
                    try clear c30
                    try clear c30b0
                    try clear p31
                    try clear q31
                    try clear hx31
                    try clear hf31
                    try clear c38
                    try clear c38b0
                    try clear hx27_0
                    try clear hx31_0
                    try clear hx555_0
                    try clear hx556_0
                    try clear hx558_0
                    try clear hx560_0
                    try clear hx561_0
                    try clear p2
                    try clear p27
                    try clear p31
                    try clear p555
                    try clear p556
                    try clear p558
                    try clear p560
                    try clear p561
                    try clear p6
                    try clear q27
                    try clear q31
                    try clear q555
                    try clear q556
                    try clear q558
                    try clear q560
                    try clear q561
                    obtain ⟨kq, x91_31, rfl, HA, HJ31, HO_4, HO_5, HO_7, HB⟩ := hcut; have hl4_31 := (Kd.R_reads' HO_4.out).1; rw [hl4_31] at HO_4
                    (try simp only [hl4_31])
                    (try simp only [hl4_31] at HO_5)
                    (try simp only [hl4_31] at HO_7)
                    cases kq with
                    | zero => exact absurd HA.out (by simp [spec_poOf.j4])
                    | succ kj31 =>
                     have H := HA.out; clear HA
                     simp only [spec_poOf.j4] at H
                     by_cases c39 : x91_31 = true
                     ·subst c39
                      rw [if_pos rfl] at H
                      simp only [Option.some.injEq, Prod.mk.injEq] at H
                      obtain ⟨rfl, rfl⟩ := H
                      go_wp2
                      go_ret2
                      exact ⟨_, by first | rfl | (simp [errW_none, errW_some] <;> rfl) | (simp only [← hji24, ← hji28]; first | rfl | (simp [errW_none, errW_some] <;> rfl)) | (simp [*, errW_none, errW_some] <;> rfl), by first | exact Kd.R_nil _ _ _ _ _ | exact Kd.N_nil _ _ _ _ _ | exact Kd.V_nil _ _ _ _ _ | exact Kd.Q_nil _ _ _ _ _ | exact Kd.S_nil _ _ _ _ _, bl_ HB.out⟩
                     ·replace c39 := Bool.eq_false_iff.mpr c39
                      subst c39; rw [if_neg (show ¬ (false = true) by decide)] at H
                      by_cases c40 : 0 ≤ ji24
                      ·rw [if_pos c40] at H
                       have c40b0 : decide (0 ≤ ji24) = true := decide_eq_true c40; clear c40
                       by_cases c41 : ji24 < (x5_3.length : Int)
                       ·rw [if_pos c41] at H
                        have c41b0 : decide (ji24 < (x5_3.length : Int)) = true := decide_eq_true c41; clear c41
                        by_cases c42 : 0 ≤ ji28
                        ·rw [if_pos c42] at H
                         have c42b0 : decide (0 ≤ ji28) = true := decide_eq_true c42; clear c42
                         by_cases c43 : ji28 < (x5_3.length : Int)
                         ·rw [if_pos c43] at H
                          have c43b0 : decide (ji28 < (x5_3.length : Int)) = true := decide_eq_true c43; clear c43; replace H := Option.bind_eq_some_iff.mp H; obtain ⟨t564, A440, H⟩ := H; have A44 := Aside0.mk A440; clear A440; replace H := Option.bind_eq_some_iff.mp H; obtain ⟨t567, A450, H⟩ := H; have A45 := Aside0.mk A450; clear A450
                          by_cases c46 : x7_3.length < 8796093022208
                          ·rw [if_pos c46] at H
                           have LMc46 := Aside0.mk c46; clear c46; obtain ⟨y568, hy568⟩ : ∃ y_ : List (S80), y_ = (x7_3 ++ [(⟨t564, t567⟩ : S80)]) := ⟨_, rfl⟩; replace H : (if 0 ≤ x8_4 then (if x8_4 ≤ (y559.length : Int) then ((spec_l1Own.f (y559.take (x8_4 : Int).toNat)).bind fun t575 => (if 0 ≤ (wrap64 (x8_4 + 1)) then (if (wrap64 (x8_4 + 1)) ≤ (y559.length : Int) then ((some (y559.drop ((wrap64 (x8_4 + 1)) : Int).toNat : List Int)).bind fun y578 => (if t575.length + y578.length < 17592186044416 then (if x8_4 ≤ (x5_3.length : Int) then ((spec_l1Own.f (x5_3.take (x8_4 : Int).toNat)).bind fun t589 => (if (wrap64 (x8_4 + 1)) ≤ (x5_3.length : Int) then ((some (x5_3.drop ((wrap64 (x8_4 + 1)) : Int).toNat : List Int)).bind fun y592 => (if t589.length + y592.length < 17592186044416 then (spec_poOf.l1 kj31 (t575 ++ y578) (t589 ++ y592) y568) else (none))) else (none))) else (none)) else (none))) else (none)) else (none))) else (none)) else (none)) = some (r1, r2) := rh_ hy568 H
                           have Ny568 := Aside0.mk hy568; clear hy568
                           by_cases c47 : 0 ≤ x8_4
                           ·rw [if_pos c47] at H
                            have c47b0 := eq_true c47; have c47b1 : decide (0 ≤ x8_4) = true := decide_eq_true c47; clear c47
                            by_cases c48 : x8_4 ≤ (y559.length : Int)
                            ·rw [if_pos c48] at H
                             have c48b0 := eq_true c48; have c48b1 : decide (x8_4 ≤ (y559.length : Int)) = true := decide_eq_true c48; clear c48; obtain ⟨y571, hy571⟩ : ∃ y_ : List Int, y_ = (y559.take (x8_4 : Int).toNat) := ⟨_, rfl⟩; replace H : ((spec_l1Own.f y571).bind fun t575 => (if 0 ≤ (wrap64 (x8_4 + 1)) then (if (wrap64 (x8_4 + 1)) ≤ (y559.length : Int) then ((some (y559.drop ((wrap64 (x8_4 + 1)) : Int).toNat : List Int)).bind fun y578 => (if t575.length + y578.length < 17592186044416 then (if x8_4 ≤ (x5_3.length : Int) then ((spec_l1Own.f (x5_3.take (x8_4 : Int).toNat)).bind fun t589 => (if (wrap64 (x8_4 + 1)) ≤ (x5_3.length : Int) then ((some (x5_3.drop ((wrap64 (x8_4 + 1)) : Int).toNat : List Int)).bind fun y592 => (if t589.length + y592.length < 17592186044416 then (spec_poOf.l1 kj31 (t575 ++ y578) (t589 ++ y592) y568) else (none))) else (none))) else (none)) else (none))) else (none)) else (none))) = some (r1, r2) := rh_ hy571 H
                             have Ny571 := Aside0.mk hy571; clear hy571; replace H := Option.bind_eq_some_iff.mp H; obtain ⟨t575, A490, H⟩ := H; have A49 := Aside0.mk A490; clear A490; obtain ⟨ji50, hji50⟩ : ∃ j_ : Int, (wrap64 (x8_4 + 1)) = j_ := ⟨_, rfl⟩; replace H : (if 0 ≤ (ji50) then (if (ji50) ≤ (y559.length : Int) then ((some (y559.drop ((ji50) : Int).toNat : List Int)).bind fun y578 => (if t575.length + y578.length < 17592186044416 then (if x8_4 ≤ (x5_3.length : Int) then ((spec_l1Own.f (x5_3.take (x8_4 : Int).toNat)).bind fun t589 => (if (ji50) ≤ (x5_3.length : Int) then ((some (x5_3.drop ((ji50) : Int).toNat : List Int)).bind fun y592 => (if t589.length + y592.length < 17592186044416 then (spec_poOf.l1 kj31 (t575 ++ y578) (t589 ++ y592) y568) else (none))) else (none))) else (none)) else (none))) else (none)) else (none)) = some (r1, r2) := by first | (rw [hji50] at H; exact H) | (simp only [hji50] at H ⊢; exact H)
                             (try rw [hji50] at A44)
                             (try rw [hji50] at A45)
                             (try rw [hji50] at A49)
                             have hji50w : (IntKind.i64.wrap (x8_4 + 1)) = ji50 := (i64_w _).trans hji50
                             by_cases c51 : 0 ≤ (ji50)
                             ·rw [if_pos c51] at H
                              have c51b0 := eq_true c51; have c51b1 : decide (0 ≤ (ji50)) = true := decide_eq_true c51; clear c51
                              by_cases c52 : (ji50) ≤ (y559.length : Int)
                              ·rw [if_pos c52] at H
                               have c52b0 := eq_true c52; have c52b1 : decide ((ji50) ≤ (y559.length : Int)) = true := decide_eq_true c52; clear c52; obtain ⟨y578, hy578⟩ : ∃ y_ : List Int, y_ = (y559.drop ((ji50) : Int).toNat) := ⟨_, rfl⟩; replace H : (if t575.length + y578.length < 17592186044416 then (if x8_4 ≤ (x5_3.length : Int) then ((spec_l1Own.f (x5_3.take (x8_4 : Int).toNat)).bind fun t589 => (if (ji50) ≤ (x5_3.length : Int) then ((some (x5_3.drop ((ji50) : Int).toNat : List Int)).bind fun y592 => (if t589.length + y592.length < 17592186044416 then (spec_poOf.l1 kj31 (t575 ++ y578) (t589 ++ y592) y568) else (none))) else (none))) else (none)) else (none)) = some (r1, r2) := rh_ hy578 H
                               have Ny578 := Aside0.mk hy578; clear hy578
                               by_cases c53 : t575.length + y578.length < 17592186044416
                               ·rw [if_pos c53] at H
                                have LMc53 := Aside0.mk c53; clear c53; obtain ⟨y582, hy582⟩ : ∃ y_ : List Int, y_ = (t575 ++ y578) := ⟨_, rfl⟩; replace H : (if x8_4 ≤ (x5_3.length : Int) then ((spec_l1Own.f (x5_3.take (x8_4 : Int).toNat)).bind fun t589 => (if (ji50) ≤ (x5_3.length : Int) then ((some (x5_3.drop ((ji50) : Int).toNat : List Int)).bind fun y592 => (if t589.length + y592.length < 17592186044416 then (spec_poOf.l1 kj31 y582 (t589 ++ y592) y568) else (none))) else (none))) else (none)) = some (r1, r2) := rh_ hy582 H
                                have Ny582 := Aside0.mk hy582; clear hy582; have c54b0 := eq_true (of_decide_eq_true as_ : 0 ≤ x8_4)
                                by_cases c55 : x8_4 ≤ (x5_3.length : Int)
                                ·rw [if_pos c55] at H
                                 have c55b0 := eq_true c55; have c55b1 : decide (x8_4 ≤ (x5_3.length : Int)) = true := decide_eq_true c55; clear c55; obtain ⟨y585, hy585⟩ : ∃ y_ : List Int, y_ = (x5_3.take (x8_4 : Int).toNat) := ⟨_, rfl⟩; replace H : ((spec_l1Own.f y585).bind fun t589 => (if (ji50) ≤ (x5_3.length : Int) then ((some (x5_3.drop ((ji50) : Int).toNat : List Int)).bind fun y592 => (if t589.length + y592.length < 17592186044416 then (spec_poOf.l1 kj31 y582 (t589 ++ y592) y568) else (none))) else (none))) = some (r1, r2) := rh_ hy585 H
                                 have Ny585 := Aside0.mk hy585; clear hy585; replace H := Option.bind_eq_some_iff.mp H; obtain ⟨t589, A560, H⟩ := H; have A56 := Aside0.mk A560; clear A560; have c57b0 := eq_true (of_decide_eq_true as_ : 0 ≤ (ji50))
                                 by_cases c58 : (ji50) ≤ (x5_3.length : Int)
                                 ·rw [if_pos c58] at H
                                  have c58b0 := eq_true c58; have c58b1 : decide ((ji50) ≤ (x5_3.length : Int)) = true := decide_eq_true c58; clear c58; obtain ⟨y592, hy592⟩ : ∃ y_ : List Int, y_ = (x5_3.drop ((ji50) : Int).toNat) := ⟨_, rfl⟩; replace H : (if t589.length + y592.length < 17592186044416 then (spec_poOf.l1 kj31 y582 (t589 ++ y592) y568) else (none)) = some (r1, r2) := rh_ hy592 H
                                  have Ny592 := Aside0.mk hy592; clear hy592
                                  by_cases c59 : t589.length + y592.length < 17592186044416
                                  ·rw [if_pos c59] at H
                                   have LMc59 := Aside0.mk c59; clear c59; obtain ⟨y596, hy596⟩ : ∃ y_ : List Int, y_ = (t589 ++ y592) := ⟨_, rfl⟩; replace H : (spec_poOf.l1 kj31 y582 y596 y568) = some (r1, r2) := rh_ hy596 H; have Ny596 := Aside0.mk hy596; clear hy596; have H' := Aside0.mk H; clear H
                                   try go_wp2
                                   replace HO_4 := Aside0.mk (Kd.R_drew HO_4.out); replace HO_5 := Aside0.mk (Kd.R_drew HO_5.out); replace HO_7 := Aside0.mk (Kd.R_drew HO_7.out); replace HB := Aside0.mk (below_drew1 HB.out); obtain ⟨Ao61, co61, eo61⟩ := Kd.R_slice HO_5.out
                                   (first | subst eo61 | (injection eo61 with f1_ f2_ f3_; have f4_ := f1_.symm; have f5_ := f3_.symm; clear f1_ f2_ f3_; subst f4_; subst f5_))
                                   have p562 : 0 ≤ (ji24 : Int) := of_decide_eq_true as_; have q562 : ji24 < (x5_3.length : Int) := of_decide_eq_true as_; obtain ⟨ad562, e562, hx562_0⟩ := Kd.at_int (Kd.R_reads' HO_5.out).2.2 ji24 p562 q562
                                   cases e562
                                   replace p562 := eq_true p562; replace q562 := eq_true q562; have p563 : 0 ≤ (ji28 : Int) := of_decide_eq_true as_; have q563 : ji28 < (x5_3.length : Int) := of_decide_eq_true as_; obtain ⟨ad563, e563, hx563_0⟩ := Kd.at_int (Kd.R_reads' HO_5.out).2.2 ji28 p563 q563; obtain rfl : ad562 = ad563 := (by injection e563)
                                   replace p563 := eq_true p563; replace q563 := eq_true q563; have p565 : 0 ≤ (ji24 : Int) := of_decide_eq_true as_; have q565 : ji24 < (x5_3.length : Int) := of_decide_eq_true as_; obtain ⟨ad565, e565, hx565_0⟩ := Kd.at_int (Kd.R_reads' HO_5.out).2.2 ji24 p565 q565; obtain rfl : ad562 = ad565 := (by injection e565)
                                   replace p565 := eq_true p565; replace q565 := eq_true q565; have p566 : 0 ≤ (ji28 : Int) := of_decide_eq_true as_; have q566 : ji28 < (x5_3.length : Int) := of_decide_eq_true as_; obtain ⟨ad566, e566, hx566_0⟩ := Kd.at_int (Kd.R_reads' HO_5.out).2.2 ji28 p566 q566; obtain rfl : ad562 = ad566 := (by injection e566)
                                   replace p566 := eq_true p566; replace q566 := eq_true q566; refine start_ (n := 23) (S := fun w' => w'.cell? (ad562.add (ji24).toNat) = some (.int .i64 (rd x5_3 ji24)) ∧ w'.cell? (ad562.add (ji28).toNat) = some (.int .i64 (rd x5_3 ji28)) ∧ w'.cell? (ad562.add (ji24).toNat) = some (.int .i64 (rd x5_3 ji24)) ∧ w'.cell? (ad562.add (ji28).toNat) = some (.int .i64 (rd x5_3 ji28))) (ds := [20, 21]) #[false, false, false, false, false, false, false, false, false, false, false, false, false, false, false, false, false, false, false, false, false, false, false] (by kernel_rfl) rfl rfl ⟨hx562_0, hx563_0, hx565_0, hx566_0⟩ (fun hHeld => ?_); refine with_tabW spec_poOf.tab25 spec_poOf.bits25 (fun HT_ HW_ => ?_)
                                   generalize wc.drew = w60 at HO_4 HO_5 HO_7 HB hx562_0 hx563_0 hx565_0 hx566_0 hHeld ⊢
                                   refine pa_ 0 (some 92) rfl rfl HT_ ?_; refine pa_ 1 (some 93) rfl rfl HT_ ?_; refine pa_ 2 (some 94) rfl rfl HT_ ?_; refine pa_ 3 (some 95) rfl rfl HT_ ?_; refine pa_ 5 (some 97) rfl rfl HT_ ?_; refine pa_ 6 (some 98) rfl rfl HT_ ?_; refine pa_ 7 (some 99) rfl rfl HT_ ?_; refine pa_ 10 (some 102) rfl rfl HT_ ?_; refine pa_ 11 (some 103) rfl rfl HT_ ?_; refine pa_ 12 (some 104) rfl rfl HT_ ?_; refine pa_ 14 (some 106) rfl rfl HT_ ?_; refine pa_ 15 (some 107) rfl rfl HT_ ?_; refine pa_ 16 (some 108) rfl rfl HT_ ?_; refine ta0_ 4 (some 96) rfl rfl HT_ HW_ hHeld ?_; refine ta0_ 8 (some 100) rfl rfl HT_ HW_ hHeld ?_; refine ta0_ 13 (some 105) rfl rfl HT_ HW_ hHeld ?_; refine ta0_ 17 (some 109) rfl rfl HT_ HW_ hHeld ?_; refine one_ (i := 9) (N := some 101) #[true, true, true, true, true, true, true, true, true, true, true, true, true, true, true, true, true, true, false, false, false, false, false] rfl rfl (one_of HT_.out (by kernel_rfl)) (by decide) (fun K hK => ?_)
                                   refine goes_ Tryz.func53 (by kernel_rfl) rfl #[.int .i64 (rd x5_3 ji24), .int .i64 (rd x5_3 ji28)] (by rfl) rfl rfl (by (try simp only [List.map_toArray, List.map_cons, List.map_nil]); first | done | (simp only [hji24, hji28]; rfl) | rfl | (simp only [List.length_drop, List.length_take]; rfl)) ?_
                                   with_reducible refine (spec_l1Least.calls (rd x5_3 ji24) (rd x5_3 ji28) t564 _ A44.out).mono ?_
                                   rintro e w' ⟨rfl, ⟨nd, rfl⟩⟩
                                   refine ⟨_, rfl, ?_⟩; refine hK.out _ _ ⟨hHeld.1, hHeld.2.1, hHeld.2.2.1, hHeld.2.2.2⟩ (fun hHeld => ?_)
                                   clear hK K; refine na_ (some 101) ?_; refine one_ (i := 18) (N := some 110) #[true, true, true, true, true, true, true, true, true, true, true, true, true, true, true, true, true, true, true, false, false, false, false] rfl rfl (one_of HT_.out (by kernel_rfl)) (by decide) (fun K hK => ?_)
                                   refine goes_ Tryz.func72 (by kernel_rfl) rfl #[.int .i64 (rd x5_3 ji24), .int .i64 (rd x5_3 ji28)] (by rfl) rfl rfl (by (try simp only [List.map_toArray, List.map_cons, List.map_nil]); first | done | (simp only [hji24, hji28]; rfl) | rfl | (simp only [List.length_drop, List.length_take]; rfl)) ?_
                                   with_reducible refine (spec_l1Most.calls (rd x5_3 ji24) (rd x5_3 ji28) t567 _ A45.out).mono ?_
                                   rintro e w' ⟨rfl, ⟨nd, rfl⟩⟩
                                   refine ⟨_, rfl, ?_⟩; refine hK.out _ _ ⟨hHeld.1, hHeld.2.1, hHeld.2.2.1, hHeld.2.2.2⟩ (fun hHeld => ?_)
                                   clear hK K; refine na_ (some 110) ?_; refine pa_ 19 (some 111) rfl rfl HT_ ?_; refine last_ (i := 20) (N := some 112) #[true, true, true, true, true, true, true, true, true, true, true, true, true, true, true, true, true, true, true, true, true, false, false] rfl rfl (one_of HT_.out (by kernel_rfl)) (by decide) (fun K hK => ?_)
                                   refine value_ (w1 := ?_) (v := ?_) (by rfl) rfl ?_ ?_
                                   rotate_left 2
                                   ·go_simp
                                    constructor
                                    ·rfl
                                    ·rfl
                                   refine hK.out _ _ ?_; clear hK K; refine na_ (some 112) ?_; refine last_ (i := 21) (N := some 113) #[true, true, true, true, true, true, true, true, true, true, true, true, true, true, true, true, true, true, true, true, true, true, false] rfl rfl (one_of HT_.out (by kernel_rfl)) (by decide) (fun K hK => ?_)
                                   refine Kd.R_append_step k80 (w0 := w) w.heap.size (by rfl) (.tmp 92) (.tmp 112) 71 80 (.agg #[(.int .i64 0), (.int .i64 0)]) 16 rfl Tryz.underlying71 info80 rfl (by decide) (by omega) u7 x7_3 (⟨t564, t567⟩ : S80) [.int .i64 t564, .int .i64 t567] (fun _ => True) (fun _ => False) rfl rfl ?aP (fun _ hk => hk.elim) ?aF ?aO ?aB ?aS ?aL ?_
                                   (case aP => exact k80_mkM _ _ _ (⟨t564, t567⟩ : S80))
                                   (case aB => exact (bl_ HB.out))
                                   (case aF => exact (fun _ _ => trivial))
                                   (case aO => exact (kr_ HO_7.out))
                                   (case aS => exact (below_size (bl_ HB.out)))
                                   (case aL => have := LMc46.out; omega)
                                   intro v569 w62 ho hb hg hat; rw [← Ny568.out] at ho
                                   have n0_ := Aside0.mk (Kd.R_over' (kr_ HO_4.out) (Kd.R_typed (kr_ HO_7.out)) (by decide) hg)
                                   have n1_ := Aside0.mk (Kd.R_over' (kr_ HO_5.out) (Kd.R_typed (kr_ HO_7.out)) (by decide) hg)
                                   have n2_ := Aside0.mk (hb); have n3_ := Aside0.mk (ho); clear HO_4; clear HO_5; clear HB; clear HO_7; have HO_4 := n0_; have HO_5 := n1_; have HB := n2_; have HO570 := n3_; clear n0_ n1_ n2_ n3_; clear ho hb hg hat; refine hK.out _ _ ?_; clear hK K; refine na_ (some 113) ?_; refine pa_ 22 (some 7) rfl rfl HT_ ?_; refine done_ (done_of HT_.out (by kernel_rfl)) ?_
                                   try go_wp2
                                   replace HO_4 := Aside0.mk (Kd.R_drew HO_4.out); replace HO_5 := Aside0.mk (Kd.R_drew HO_5.out); replace HO570 := Aside0.mk (Kd.R_drew HO570.out); replace HB := Aside0.mk (below_drew1 HB.out); have q64 : (x8_4 : Int) ≤ ((y559.length : Int) : Int) := of_decide_eq_true as_; obtain ⟨i064, hi064, _, hsz64, _⟩ := info_parts info3; have hroom64 : y559.length ≤ co16 := (Kd.R_reads' HO_4.out).2.1; have hC64 : Kd.C (Kd.int .i64) _ (some ⟨go27, 0, none⟩) y559.length y559 := (Kd.R_reads' HO_4.out).2.2; have hcut64 := cut_to (P := Tryz.prog) 24 3 .i64 Tryz.underlying24 hi064 (some ⟨go27, 0, none⟩) y559.length co16 x8_4 (of_decide_eq_true as_) q64 hroom64; have hr64 := Kd.C_take (m := (x8_4 : Int).toNat) hC64 (by omega)
                                   have hy64 : y571.length = (x8_4 : Int).toNat := (by rw [Ny571.out, List.length_take]; omega)
                                   rw [← Ny571.out] at hr64
                                   rw [← hy64] at hcut64
                                   have HR574 := Aside0.mk hr64; have HC574 := Aside0.mk (show y571.length ≤ co16 from by omega)
                                   clear hr64 hC64 hroom64 hi064 hsz64; have KY64 := Aside0.mk hy64; clear hy64; have KL64 := Aside0.mk (show (x8_4 : Int).toNat ≤ y559.length from by omega)
                                   replace q64 := eq_true q64; have q65 : ((ji50) : Int) ≤ ((y559.length : Int) : Int) := of_decide_eq_true as_; obtain ⟨i065, hi065, _, hsz65, _⟩ := info_parts info3; have hroom65 : y559.length ≤ co16 := (Kd.R_reads' HO_4.out).2.1; have hC65 : Kd.C (Kd.int .i64) _ (some ⟨go27, 0, none⟩) y559.length y559 := (Kd.R_reads' HO_4.out).2.2; have q065 : (0 : Int) ≤ ((ji50) : Int) := of_decide_eq_true as_; have hcut65 := cut_from (P := Tryz.prog) 24 3 .i64 Tryz.underlying24 hi065 1 hsz65 (some ⟨go27, 0, none⟩) y559.length co16 (ji50) q065 q65; have hr65 := Kd.C_drop (m := ((ji50) : Int).toNat) (c := co16) hC65 (by omega) hroom65
                                   obtain ⟨A65, hA65⟩ : ∃ A1, A1 = (if co16 = ((ji50) : Int).toNat then (some ⟨go27, 0, none⟩) else ((some ⟨go27, 0, none⟩) : Option Addr).map (·.add (((ji50) : Int).toNat * 1))) := ⟨_, rfl⟩
                                   obtain ⟨c65, hc65⟩ : ∃ c1, c1 = co16 - ((ji50) : Int).toNat := ⟨_, rfl⟩; have hy65 : y578.length = y559.length - ((ji50) : Int).toNat := (by rw [Ny578.out, List.length_drop] <;> omega)
                                   rw [show (y559).drop ((ji50) : Int).toNat = y578 from Ny578.out.symm] at hr65
                                   replace hr65 : Kd.C (Kd.int .i64) _ A65 y578.length y578 := (by rw [hA65]; exact hr65)
                                   rw [← hy65, ← hA65, ← hc65] at hcut65
                                   have HR581 := Aside0.mk hr65; have HC581 := Aside0.mk (show y578.length ≤ c65 from by rw [hy65, hc65]; exact Nat.sub_le_sub_right hroom65 _)
                                   clear hr65 hC65 hroom65 hi065 hsz65 hc65; have KY65 := Aside0.mk hy65; have KA65 := Aside0.mk hA65; clear hy65 hA65; have KL65 := Aside0.mk (show ((ji50) : Int).toNat ≤ y559.length from by omega)
                                   replace q65 := eq_true q65; refine start_ (n := 10) (S := fun w' => True) (ds := []) #[false, false, false, false, false, false, false, false, false, false] (by kernel_rfl) rfl rfl trivial (fun hHeld => ?_); refine with_tabW spec_poOf.tab26 spec_poOf.bits26 (fun HT_ HW_ => ?_)
                                   generalize w62.drew = w63 at HO_4 HO_5 HO570 HB HR574 HR581 hHeld ⊢
                                   refine pa_ 0 (some 114) rfl rfl HT_ ?_; refine pa_ 1 (some 115) rfl rfl HT_ ?_; refine pa_ 2 (some 116) rfl rfl HT_ ?_; refine pa_ 4 (some 118) rfl rfl HT_ ?_; refine pa_ 5 (some 119) rfl rfl HT_ ?_; refine pa_ 6 (some 120) rfl rfl HT_ ?_; refine pa_ 7 (some 121) rfl rfl HT_ ?_; refine one_ (i := 3) (N := some 117) #[true, true, true, true, true, true, true, true, false, false] rfl rfl (one_of HT_.out (by kernel_rfl)) (by decide) (fun K hK => ?_)
                                   refine goes_ Tryz.func69 (by kernel_rfl) rfl #[.slice (some ⟨go27, 0, none⟩) y571.length co16] (by rfl) rfl rfl (by (try simp only [List.map_toArray, List.map_cons, List.map_nil]); first | done | rfl | (simp only [List.length_drop, List.length_take]; rfl)) ?_
                                   with_reducible refine (spec_l1Own.calls _ _ y571 t575 _ ?side1 ?side2 A49.out).mono ?_
                                   (case side1 => exact (cc_ HR574.out))
                                   (case side2 => exact HC574.out)
                                   rintro e w66 ⟨v576, rfl, ho0, hb⟩
                                   refine ⟨_, rfl, ?_⟩; have n0_ := Aside0.mk (Kd.R_elder' (kr_ HO_4.out) (Kd.R_base ho0) hb); have n1_ := Aside0.mk (Kd.R_elder' (kr_ HO_5.out) (Kd.R_base ho0) hb); have n2_ := Aside0.mk (Kd.R_below (kr_ HO570.out) hb); have n3_ := Aside0.mk (Kd.R_lower (Kd.R_new' (Kd.R_new' ho0 (Kd.R_lt (kr_ HO_4.out))) (Kd.R_lt (kr_ HO_5.out))) (below_size (bl_ HB.out))); have n4_ := Aside0.mk (Kd.C_below (cc_ HR574.out) hb)
                                   have n5_ := Aside0.mk (Kd.C_below (cc_ HR581.out) hb)
                                   have n6_ := Aside0.mk (below_step (bl_ HB.out) hb); clear HO_4; clear HO_5; clear HO570; clear HR574; clear HR581; clear HB; have HO_4 := n0_; have HO_5 := n1_; have HO570 := n2_; have HO577 := n3_; have HR574 := n4_; have HR581 := n5_; have HB := n6_; clear n0_ n1_ n2_ n3_ n4_ n5_ n6_
                                   (try clear hb)
                                   (try clear hb2)
                                   (try clear hk)
                                   (try clear hi)
                                   (try clear ho0)
                                   refine hK.out _ _ trivial (fun hHeld => ?_)
                                   clear hK K; refine na_ (some 117) ?_; refine one_ (i := 8) (N := some 122) #[true, true, true, true, true, true, true, true, true, false] rfl rfl (one_of HT_.out (by kernel_rfl)) (by decide) (fun K hK => ?_)
                                   refine Kd.R_append_rows_step (Kd.int .i64) (w0 := w) w.heap.size (by rfl) (.tmp 117) (.tmp 121) 24 3 (.int .i64 0) 8 rfl Tryz.underlying24 info3 rfl (by decide) (by omega) v576 t575 y578 _ _ _ (fun k_ => some k_ ≠ (.slice (some ⟨go27, 0, none⟩) y559.length co16 : Value).ownBlock ∧ some k_ ≠ (.slice (some ad562) x5_3.length co61 : Value).ownBlock) (fun _ => False) rfl rfl ?aO ?aR (fun _ _ h => h) (fun _ h => h.elim) ?aF ?aB ?aS ?aL ?_
                                   (case aR => exact (cc_ HR581.out))
                                   (case aB => exact (bl_ HB.out))
                                   (case aF => exact (fun k_ hk => ⟨Kd.fresh' (Kd.R_lt (kr_ HO_4.out)) k_ hk, Kd.fresh' (Kd.R_lt (kr_ HO_5.out)) k_ hk⟩))
                                   (case aO => exact (by (with_reducible repeat (first | apply Kd.R_alloc | apply Kd.R_drewN | apply Kd.R_drew)); exact Kd.R_mono HO577.out (fun _ hk => ⟨hk.1.2, hk.2⟩)))
                                   (case aS => exact (below_size (bl_ HB.out)))
                                   (case aL => have := LMc53.out; omega)
                                   intro v583 w67 ho hb hg hat; rw [← Ny582.out] at ho
                                   have n0_ := Aside0.mk (Kd.R_after (ok := (fun k_ => some k_ ≠ (.slice (some ad562) x5_3.length co61 : Value).ownBlock)) (kr_ HO_4.out) hg hat)
                                   have n1_ := Aside0.mk (Kd.R_after (ok := (fun k_ => some k_ ≠ (.slice (some ⟨go27, 0, none⟩) y559.length co16 : Value).ownBlock)) (kr_ HO_5.out) hg hat)
                                   have n2_ := Aside0.mk (Kd.R_over' (kr_ HO570.out) (Kd.R_typed (kr_ HO577.out)) (by decide) hg)
                                   have n3_ := Aside0.mk (hb); have n4_ := Aside0.mk ((show Kd.C (Kd.int .i64) w67 (some ⟨go27, 0, none⟩) y571.length y571 from by rw [Ny571.out]; exact Kd.C_take (m := (x8_4 : Int).toNat) ((Kd.R_reads' (Kd.R_after (ok := (fun k_ => some k_ ≠ (.slice (some ad562) x5_3.length co61 : Value).ownBlock)) (kr_ HO_4.out) hg hat)).2.2) KL64.out))
                                   have n5_ := Aside0.mk ((show Kd.C (Kd.int .i64) w67 A65 y578.length y578 from by rw [Ny578.out, KA65.out]; exact Kd.C_drop (m := ((ji50) : Int).toNat) (c := co16) ((Kd.R_reads' (Kd.R_after (ok := (fun k_ => some k_ ≠ (.slice (some ad562) x5_3.length co61 : Value).ownBlock)) (kr_ HO_4.out) hg hat)).2.2) KL65.out ((Kd.R_reads' (Kd.R_after (ok := (fun k_ => some k_ ≠ (.slice (some ad562) x5_3.length co61 : Value).ownBlock)) (kr_ HO_4.out) hg hat)).2.1)))
                                   have n6_ := Aside0.mk (ho); clear HO_4; clear HO_5; clear HO570; clear HB; clear HR574; clear HR581; clear HO577; have HO_4 := n0_; have HO_5 := n1_; have HO570 := n2_; have HB := n3_; have HR574 := n4_; have HR581 := n5_; have HO584 := n6_; clear n0_ n1_ n2_ n3_ n4_ n5_ n6_; clear ho hb hg hat; refine hK.out _ _ trivial (fun hHeld => ?_)
                                   clear hK K; refine na_ (some 122) ?_; refine pa_ 9 (some 4) rfl rfl HT_ ?_; refine done_ (done_of HT_.out (by kernel_rfl)) ?_
                                   try go_wp2
                                   replace HO_4 := Aside0.mk (Kd.R_drew HO_4.out); replace HO_5 := Aside0.mk (Kd.R_drew HO_5.out); replace HO570 := Aside0.mk (Kd.R_drew HO570.out); replace HO584 := Aside0.mk (Kd.R_drew HO584.out); replace HR574 := Aside0.mk (Kd.C_drew HR574.out); replace HR581 := Aside0.mk (Kd.C_drew HR581.out); replace HB := Aside0.mk (below_drew1 HB.out); have q69 : (x8_4 : Int) ≤ ((x5_3.length : Int) : Int) := of_decide_eq_true as_; obtain ⟨i069, hi069, _, hsz69, _⟩ := info_parts info3; have hroom69 : x5_3.length ≤ co61 := (Kd.R_reads' HO_5.out).2.1; have hC69 : Kd.C (Kd.int .i64) _ (some ad562) x5_3.length x5_3 := (Kd.R_reads' HO_5.out).2.2; have hcut69 := cut_to (P := Tryz.prog) 24 3 .i64 Tryz.underlying24 hi069 (some ad562) x5_3.length co61 x8_4 (of_decide_eq_true as_) q69 hroom69; have hr69 := Kd.C_take (m := (x8_4 : Int).toNat) hC69 (by omega)
                                   have hy69 : y585.length = (x8_4 : Int).toNat := (by rw [Ny585.out, List.length_take]; omega)
                                   rw [← Ny585.out] at hr69
                                   rw [← hy69] at hcut69
                                   have HR588 := Aside0.mk hr69; have HC588 := Aside0.mk (show y585.length ≤ co61 from by omega)
                                   clear hr69 hC69 hroom69 hi069 hsz69; have KY69 := Aside0.mk hy69; clear hy69; have KL69 := Aside0.mk (show (x8_4 : Int).toNat ≤ x5_3.length from by omega)
                                   replace q69 := eq_true q69; have q70 : ((ji50) : Int) ≤ ((x5_3.length : Int) : Int) := of_decide_eq_true as_; obtain ⟨i070, hi070, _, hsz70, _⟩ := info_parts info3; have hroom70 : x5_3.length ≤ co61 := (Kd.R_reads' HO_5.out).2.1; have hC70 : Kd.C (Kd.int .i64) _ (some ad562) x5_3.length x5_3 := (Kd.R_reads' HO_5.out).2.2; have q070 : (0 : Int) ≤ ((ji50) : Int) := of_decide_eq_true as_; have hcut70 := cut_from (P := Tryz.prog) 24 3 .i64 Tryz.underlying24 hi070 1 hsz70 (some ad562) x5_3.length co61 (ji50) q070 q70; have hr70 := Kd.C_drop (m := ((ji50) : Int).toNat) (c := co61) hC70 (by omega) hroom70
                                   obtain ⟨A70, hA70⟩ : ∃ A1, A1 = (if co61 = ((ji50) : Int).toNat then (some ad562) else ((some ad562) : Option Addr).map (·.add (((ji50) : Int).toNat * 1))) := ⟨_, rfl⟩
                                   obtain ⟨c70, hc70⟩ : ∃ c1, c1 = co61 - ((ji50) : Int).toNat := ⟨_, rfl⟩; have hy70 : y592.length = x5_3.length - ((ji50) : Int).toNat := (by rw [Ny592.out, List.length_drop] <;> omega)
                                   rw [show (x5_3).drop ((ji50) : Int).toNat = y592 from Ny592.out.symm] at hr70
                                   replace hr70 : Kd.C (Kd.int .i64) _ A70 y592.length y592 := (by rw [hA70]; exact hr70)
                                   rw [← hy70, ← hA70, ← hc70] at hcut70
                                   have HR595 := Aside0.mk hr70; have HC595 := Aside0.mk (show y592.length ≤ c70 from by rw [hy70, hc70]; exact Nat.sub_le_sub_right hroom70 _)
                                   clear hr70 hC70 hroom70 hi070 hsz70 hc70; have KY70 := Aside0.mk hy70; have KA70 := Aside0.mk hA70; clear hy70 hA70; have KL70 := Aside0.mk (show ((ji50) : Int).toNat ≤ x5_3.length from by omega)
                                   replace q70 := eq_true q70; refine start_ (n := 10) (S := fun w' => True) (ds := []) #[false, false, false, false, false, false, false, false, false, false] (by kernel_rfl) rfl rfl trivial (fun hHeld => ?_); refine with_tabW spec_poOf.tab27 spec_poOf.bits27 (fun HT_ HW_ => ?_)
                                   generalize w67.drew = w68 at HO_4 HO_5 HO570 HO584 HR574 HR581 HB HR588 HR595 hHeld ⊢
                                   refine pa_ 0 (some 123) rfl rfl HT_ ?_; refine pa_ 1 (some 124) rfl rfl HT_ ?_; refine pa_ 2 (some 125) rfl rfl HT_ ?_; refine pa_ 4 (some 127) rfl rfl HT_ ?_; refine pa_ 5 (some 128) rfl rfl HT_ ?_; refine pa_ 6 (some 129) rfl rfl HT_ ?_; refine pa_ 7 (some 130) rfl rfl HT_ ?_; refine one_ (i := 3) (N := some 126) #[true, true, true, true, true, true, true, true, false, false] rfl rfl (one_of HT_.out (by kernel_rfl)) (by decide) (fun K hK => ?_)
                                   refine goes_ Tryz.func69 (by kernel_rfl) rfl #[.slice (some ad562) y585.length co61] (by rfl) rfl rfl (by (try simp only [List.map_toArray, List.map_cons, List.map_nil]); first | done | rfl | (simp only [List.length_drop, List.length_take]; rfl)) ?_
                                   with_reducible refine (spec_l1Own.calls _ _ y585 t589 _ ?side1 ?side2 A56.out).mono ?_
                                   (case side1 => exact (cc_ HR588.out))
                                   (case side2 => exact HC588.out)
                                   rintro e w71 ⟨v590, rfl, ho0, hb⟩
                                   refine ⟨_, rfl, ?_⟩; have n0_ := Aside0.mk (Kd.R_elder' (kr_ HO_4.out) (Kd.R_base ho0) hb); have n1_ := Aside0.mk (Kd.R_elder' (kr_ HO_5.out) (Kd.R_base ho0) hb); have n2_ := Aside0.mk (Kd.R_below (kr_ HO570.out) hb); have n3_ := Aside0.mk (Kd.R_elder' (kr_ HO584.out) (Kd.R_base ho0) hb); have n4_ := Aside0.mk (Kd.R_lower (Kd.R_new' (Kd.R_new' (Kd.R_new' ho0 (Kd.R_lt (kr_ HO_4.out))) (Kd.R_lt (kr_ HO_5.out))) (Kd.R_lt (kr_ HO584.out))) (below_size (bl_ HB.out))); have n5_ := Aside0.mk (Kd.C_below (cc_ HR574.out) hb)
                                   have n6_ := Aside0.mk (Kd.C_below (cc_ HR581.out) hb)
                                   have n7_ := Aside0.mk (Kd.C_below (cc_ HR588.out) hb)
                                   have n8_ := Aside0.mk (Kd.C_below (cc_ HR595.out) hb)
                                   have n9_ := Aside0.mk (below_step (bl_ HB.out) hb); clear HO_4; clear HO_5; clear HO570; clear HO584; clear HR574; clear HR581; clear HR588; clear HR595; clear HB; have HO_4 := n0_; have HO_5 := n1_; have HO570 := n2_; have HO584 := n3_; have HO591 := n4_; have HR574 := n5_; have HR581 := n6_; have HR588 := n7_; have HR595 := n8_; have HB := n9_; clear n0_ n1_ n2_ n3_ n4_ n5_ n6_ n7_ n8_ n9_
                                   (try clear hb)
                                   (try clear hb2)
                                   (try clear hk)
                                   (try clear hi)
                                   (try clear ho0)
                                   refine hK.out _ _ trivial (fun hHeld => ?_)
                                   clear hK K; refine na_ (some 126) ?_; refine one_ (i := 8) (N := some 131) #[true, true, true, true, true, true, true, true, true, false] rfl rfl (one_of HT_.out (by kernel_rfl)) (by decide) (fun K hK => ?_)
                                   refine Kd.R_append_rows_step (Kd.int .i64) (w0 := w) w.heap.size (by rfl) (.tmp 126) (.tmp 130) 24 3 (.int .i64 0) 8 rfl Tryz.underlying24 info3 rfl (by decide) (by omega) v590 t589 y592 _ _ _ (fun k_ => some k_ ≠ (.slice (some ⟨go27, 0, none⟩) y559.length co16 : Value).ownBlock ∧ some k_ ≠ (.slice (some ad562) x5_3.length co61 : Value).ownBlock ∧ some k_ ≠ (v583 : Value).ownBlock) (fun _ => False) rfl rfl ?aO ?aR (fun _ _ h => h) (fun _ h => h.elim) ?aF ?aB ?aS ?aL ?_
                                   (case aR => exact (cc_ HR595.out))
                                   (case aB => exact (bl_ HB.out))
                                   (case aF => exact (fun k_ hk => ⟨Kd.fresh' (Kd.R_lt (kr_ HO_4.out)) k_ hk, Kd.fresh' (Kd.R_lt (kr_ HO_5.out)) k_ hk, Kd.fresh' (Kd.R_lt (kr_ HO584.out)) k_ hk⟩))
                                   (case aO => exact (by (with_reducible repeat (first | apply Kd.R_alloc | apply Kd.R_drewN | apply Kd.R_drew)); exact Kd.R_mono HO591.out (fun _ hk => ⟨hk.1.1.2, ⟨hk.1.2, hk.2⟩⟩)))
                                   (case aS => exact (below_size (bl_ HB.out)))
                                   (case aL => have := LMc59.out; omega)
                                   intro v597 w72 ho hb hg hat; rw [← Ny596.out] at ho
                                   have n0_ := Aside0.mk (Kd.R_after (ok := (fun k_ => some k_ ≠ (.slice (some ad562) x5_3.length co61 : Value).ownBlock ∧ some k_ ≠ (v583 : Value).ownBlock)) (kr_ HO_4.out) hg hat)
                                   have n1_ := Aside0.mk (Kd.R_after (ok := (fun k_ => some k_ ≠ (.slice (some ⟨go27, 0, none⟩) y559.length co16 : Value).ownBlock ∧ some k_ ≠ (v583 : Value).ownBlock)) (kr_ HO_5.out) hg hat)
                                   have n2_ := Aside0.mk (Kd.R_over' (kr_ HO570.out) (Kd.R_typed (kr_ HO591.out)) (by decide) hg)
                                   have n3_ := Aside0.mk (Kd.R_after (ok := (fun k_ => some k_ ≠ (.slice (some ⟨go27, 0, none⟩) y559.length co16 : Value).ownBlock ∧ some k_ ≠ (.slice (some ad562) x5_3.length co61 : Value).ownBlock)) (kr_ HO584.out) hg hat)
                                   have n4_ := Aside0.mk (hb); have n5_ := Aside0.mk ((show Kd.C (Kd.int .i64) w72 (some ⟨go27, 0, none⟩) y571.length y571 from by rw [Ny571.out]; exact Kd.C_take (m := (x8_4 : Int).toNat) ((Kd.R_reads' (Kd.R_after (ok := (fun k_ => some k_ ≠ (.slice (some ad562) x5_3.length co61 : Value).ownBlock ∧ some k_ ≠ (v583 : Value).ownBlock)) (kr_ HO_4.out) hg hat)).2.2) KL64.out))
                                   have n6_ := Aside0.mk ((show Kd.C (Kd.int .i64) w72 A65 y578.length y578 from by rw [Ny578.out, KA65.out]; exact Kd.C_drop (m := ((ji50) : Int).toNat) (c := co16) ((Kd.R_reads' (Kd.R_after (ok := (fun k_ => some k_ ≠ (.slice (some ad562) x5_3.length co61 : Value).ownBlock ∧ some k_ ≠ (v583 : Value).ownBlock)) (kr_ HO_4.out) hg hat)).2.2) KL65.out ((Kd.R_reads' (Kd.R_after (ok := (fun k_ => some k_ ≠ (.slice (some ad562) x5_3.length co61 : Value).ownBlock ∧ some k_ ≠ (v583 : Value).ownBlock)) (kr_ HO_4.out) hg hat)).2.1)))
                                   have n7_ := Aside0.mk ((show Kd.C (Kd.int .i64) w72 (some ad562) y585.length y585 from by rw [Ny585.out]; exact Kd.C_take (m := (x8_4 : Int).toNat) ((Kd.R_reads' (Kd.R_after (ok := (fun k_ => some k_ ≠ (.slice (some ⟨go27, 0, none⟩) y559.length co16 : Value).ownBlock ∧ some k_ ≠ (v583 : Value).ownBlock)) (kr_ HO_5.out) hg hat)).2.2) KL69.out))
                                   have n8_ := Aside0.mk ((show Kd.C (Kd.int .i64) w72 A70 y592.length y592 from by rw [Ny592.out, KA70.out]; exact Kd.C_drop (m := ((ji50) : Int).toNat) (c := co61) ((Kd.R_reads' (Kd.R_after (ok := (fun k_ => some k_ ≠ (.slice (some ⟨go27, 0, none⟩) y559.length co16 : Value).ownBlock ∧ some k_ ≠ (v583 : Value).ownBlock)) (kr_ HO_5.out) hg hat)).2.2) KL70.out ((Kd.R_reads' (Kd.R_after (ok := (fun k_ => some k_ ≠ (.slice (some ⟨go27, 0, none⟩) y559.length co16 : Value).ownBlock ∧ some k_ ≠ (v583 : Value).ownBlock)) (kr_ HO_5.out) hg hat)).2.1)))
                                   have n9_ := Aside0.mk (ho); clear HO_4; clear HO_5; clear HO570; clear HO584; clear HB; clear HR574; clear HR581; clear HR588; clear HR595; clear HO591; have HO_4 := n0_; have HO_5 := n1_; have HO570 := n2_; have HO584 := n3_; have HB := n4_; have HR574 := n5_; have HR581 := n6_; have HR588 := n7_; have HR595 := n8_; have HO598 := n9_; clear n0_ n1_ n2_ n3_ n4_ n5_ n6_ n7_ n8_ n9_; clear ho hb hg hat; refine hK.out _ _ trivial (fun hHeld => ?_)
                                   clear hK K; refine na_ (some 131) ?_; refine pa_ 9 (some 5) rfl rfl HT_ ?_; refine done_ (done_of HT_.out (by kernel_rfl)) ?_
                                   try go_wp2
                                   (try simp only [← hl4_31])
                                   go_roundg kj31
                                   case measure => have := HJ1.out; have := HK2.out; have := HK3.out; have := HK4.out; have := HJ31.out; omega
                                   case rel => exact ⟨(y582), (y596), (y568), H', ⟨by have := HJ1.out; have := HK2.out; have := HK3.out; have := HK4.out; have := HJ31.out; omega⟩, ⟨by (try simp only [hl4_31]); (with_reducible repeat (first | apply Kd.R_alloc | apply Kd.R_drewN | apply Kd.R_drew)); exact Kd.R_mono HO584.out (fun _ hk => hk.2)⟩, ⟨by (try simp only [hl4_31]); (with_reducible repeat (first | apply Kd.R_alloc | apply Kd.R_drewN | apply Kd.R_drew)); exact Kd.R_mono HO598.out (fun _ hk => hk.2.2)⟩, ⟨by (try simp only [hl4_31]); (with_reducible repeat (first | apply Kd.R_alloc | apply Kd.R_drewN | apply Kd.R_drew)); exact HO570.out⟩, ⟨bl_ HB.out⟩⟩
                                  ·rw [if_neg c59] at H
                                   exact absurd H (by simp)
                                 ·rw [if_neg c58] at H
                                  exact absurd H (by simp)
                                ·rw [if_neg c55] at H
                                 exact absurd H (by simp)
                               ·rw [if_neg c53] at H
                                exact absurd H (by simp)
                              ·rw [if_neg c52] at H
                               exact absurd H (by simp)
                             ·rw [if_neg c51] at H
                              exact absurd H (by simp)
                            ·rw [if_neg c48] at H
                             exact absurd H (by simp)
                           ·rw [if_neg c47] at H
                            exact absurd H (by simp)
                          ·rw [if_neg c46] at H
                           exact absurd H (by simp)
                         ·rw [if_neg c43] at H
                          exact absurd H (by simp)
                        ·rw [if_neg c42] at H
                         exact absurd H (by simp)
                       ·rw [if_neg c41] at H
                        exact absurd H (by simp)
                      ·rw [if_neg c40] at H
                       exact absurd H (by simp)
                  ·rw [if_neg c30] at H
                   exact absurd H (by simp)
                 ·rw [if_neg c29] at H
                  exact absurd H (by simp)
                ·rw [if_neg c26] at H
                 exact absurd H (by simp)
               ·rw [if_neg c25] at H
                exact absurd H (by simp)
         ·rw [if_neg c15] at H
          have c15b0 : decide (3 < (x4_3.length : Int)) = false := decide_eq_false c15; have c15b1 : decide (3 < x4_3.length) = false := decide_eq_false (by omega)
          clear c15; replace H := Option.bind_eq_some_iff.mp H; obtain ⟨t549, A730, H⟩ := H; have A73 := Aside0.mk A730; clear A730
          by_cases c74 : 0 < (x4_3.length : Int)
          ·rw [if_pos c74] at H
           have c74b0 : decide (0 < (x4_3.length : Int)) = true := decide_eq_true c74; have c74b1 : decide (0 < x4_3.length) = true := decide_eq_true (by omega)
           clear c74
           by_cases c75 : (rd x4_3 0) = 1
           ·rw [if_pos c75] at H
            have c75b0 : ((rd x4_3 0) == 1) = true := beq_iff_eq.mpr c75; have c75b1 : ((rd x4_3 0) != 1) = false := bne_eq_false_iff_eq.mpr c75; clear c75
            by_cases c76 : 1 < (x4_3.length : Int)
            ·rw [if_pos c76] at H
             have c76b0 : decide (1 < (x4_3.length : Int)) = true := decide_eq_true c76; have c76b1 : decide (1 < x4_3.length) = true := decide_eq_true (by omega)
             clear c76
             by_cases c77 : (rd x4_3 1) = 1
             ·rw [if_pos c77] at H
              have c77b0 : ((rd x4_3 1) == 1) = true := beq_iff_eq.mpr c77; have c77b1 : ((rd x4_3 1) != 1) = false := bne_eq_false_iff_eq.mpr c77; clear c77
              by_cases c78 : 2 < (x4_3.length : Int)
              ·rw [if_pos c78] at H
               have c78b0 : decide (2 < (x4_3.length : Int)) = true := decide_eq_true c78; have c78b1 : decide (2 < x4_3.length) = true := decide_eq_true (by omega)
               clear c78
               simp only [Option.some.injEq, Prod.mk.injEq] at H
               obtain ⟨rfl, rfl⟩ := H; obtain ⟨Ao79, co79, eo79⟩ := Kd.R_slice HO_4.out; subst eo79; obtain ⟨Ao80, co80, eo80⟩ := Kd.R_slice HO_7.out; subst eo80
               try go_wp2_with (first | ((with_reducible refine gate_callee (f := 73) rfl ?_); refine gl_ (some 133) Tryz.func73 #[.slice Ao80 x7_3.length co80] rfl ?_; (with_reducible refine (spec_poSorted.calls k3 _ _ x7_3 t549 _ ?side1 ?side2 A73.out).mono ?_); (case side1 => exact cc_ (Kd.R_reads' HO_7.out).2.2); (case side2 => exact (Kd.R_reads' HO_7.out).2.1); rintro e w81 ⟨v550, rfl, ho0, hb⟩; refine ⟨_, rfl, ?_⟩; replace HO_4 := Aside0.mk (Kd.R_below (kr_ HO_4.out) hb); replace HO_5 := Aside0.mk (Kd.R_below (kr_ HO_5.out) hb); have HO551 := Aside0.mk (Kd.R_lower (Kd.R_new' ho0 (Kd.R_lt (kr_ HO_7.out))) (below_size (bl_ HB.out))); replace HO_7 := Aside0.mk (Kd.R_elder' (kr_ HO_7.out) (Kd.R_base ho0) hb); replace HB := Aside0.mk (below_step (bl_ HB.out) hb); (try clear hb); (try clear hb2); (try clear hk); (try clear hi); (try clear ho0)))
               replace HO_4 := Aside0.mk (Kd.R_drew HO_4.out); replace HO_5 := Aside0.mk (Kd.R_drew HO_5.out); replace HO_7 := Aside0.mk (Kd.R_drew HO_7.out); replace HO551 := Aside0.mk (Kd.R_drew HO551.out); replace HB := Aside0.mk (below_drew1 HB.out); have p552 : 0 ≤ (0 : Int) := (by omega)
               have q552 : 0 < (x4_3.length : Int) := of_decide_eq_true as_; obtain ⟨ad552, e552, hx552_0⟩ := Kd.at_int (Kd.R_reads' HO_4.out).2.2 0 p552 q552
               cases e552
               have qi552 : (0 < x4_3.length) = True := eq_true (by omega)
               (try rw [show ((0 : Int)).toNat = 0 from rfl] at hx552_0)
               (try rw [Addr.add_zero'] at hx552_0)
               replace p552 := eq_true p552; replace q552 := eq_true q552; have p553 : 0 ≤ (1 : Int) := (by omega)
               have q553 : 1 < (x4_3.length : Int) := of_decide_eq_true as_; obtain ⟨ad553, e553, hx553_0⟩ := Kd.at_int (Kd.R_reads' HO_4.out).2.2 1 p553 q553; obtain rfl : ad552 = ad553 := (by injection e553)
               (try simp only [show (1 : Int).toNat = 1 from rfl, Nat.reduceMul, Nat.reduceEqDiff, Go.Addr.add, ↓reduceIte] at hx553_0)
               have qi553 : (1 < x4_3.length) = True := eq_true (by omega)
               (try rw [show ((1 : Int)).toNat = 1 from rfl] at hx553_0)
               replace p553 := eq_true p553; replace q553 := eq_true q553; have p554 : 0 ≤ (2 : Int) := (by omega)
               have q554 : 2 < (x4_3.length : Int) := of_decide_eq_true as_; obtain ⟨ad554, e554, hx554_0⟩ := Kd.at_int (Kd.R_reads' HO_4.out).2.2 2 p554 q554; obtain rfl : ad552 = ad554 := (by injection e554)
               (try simp only [show (2 : Int).toNat = 2 from rfl, Nat.reduceMul, Nat.reduceEqDiff, Go.Addr.add, ↓reduceIte] at hx554_0)
               have qi554 : (2 < x4_3.length) = True := eq_true (by omega)
               (try rw [show ((2 : Int)).toNat = 2 from rfl] at hx554_0)
               replace p554 := eq_true p554; replace q554 := eq_true q554; refine start_ (n := 19) (S := fun w' => w'.cell? ad552 = some (.int .i64 (rd x4_3 0)) ∧ w'.cell? ⟨ad552.block, ad552.off + 1, none⟩ = some (.int .i64 (rd x4_3 1)) ∧ w'.cell? ⟨ad552.block, ad552.off + 2, none⟩ = some (.int .i64 (rd x4_3 2))) (ds := []) #[false, false, false, false, false, false, false, false, false, false, false, false, false, false, false, false, false, false, false] (by kernel_rfl) rfl rfl ⟨hx552_0, hx553_0, hx554_0⟩ (fun hHeld => ?_); refine with_tabW spec_poOf.tab29 spec_poOf.bits29 (fun HT_ HW_ => ?_)
               generalize w81.drew = w82 at HO_4 HO_5 HO_7 HO551 HB hx552_0 hx553_0 hx554_0 hHeld ⊢
               refine pa_ 0 (some 134) rfl rfl HT_ ?_; refine pa_ 1 (some 135) rfl rfl HT_ ?_; refine pa_ 2 (some 136) rfl rfl HT_ ?_; refine ta2_ 3 (some 137) rfl rfl HT_ HW_ hHeld ?_; refine pa_ 4 (some 138) rfl rfl HT_ ?_; refine pa_ 5 (some 139) rfl rfl HT_ ?_; refine pa_ 6 (some 140) rfl rfl HT_ ?_; refine pa_ 7 (some 141) rfl rfl HT_ ?_; refine ta2_ 8 (some 142) rfl rfl HT_ HW_ hHeld ?_; refine pa_ 9 (some 143) rfl rfl HT_ ?_; refine pa_ 10 (some 144) rfl rfl HT_ ?_; refine pa_ 11 (some 145) rfl rfl HT_ ?_; refine pa_ 12 (some 146) rfl rfl HT_ ?_; refine pa_ 13 (some 147) rfl rfl HT_ ?_; refine pa_ 17 (some 2) rfl rfl HT_ ?_; refine ta2_ 14 (some 148) rfl rfl HT_ HW_ hHeld ?_; refine pa_ 15 (some 149) rfl rfl HT_ ?_; refine pa_ 16 (some 150) rfl rfl HT_ ?_; refine pa_ 18 (some 3) rfl rfl HT_ ?_; refine done_ (done_of HT_.out (by kernel_rfl)) ?_
               try go_wp2
               go_ret2
               exact ⟨_, by first | rfl | (simp [errW_none, errW_some] <;> rfl) | (simp [*, errW_none, errW_some] <;> rfl), by (with_reducible repeat (first | apply Kd.R_alloc | apply Kd.R_drewN | apply Kd.R_drew)); exact Kd.R_mono HO551.out (fun _ hk => trivial), bl_ HB.out⟩
              ·rw [if_neg c78] at H
               exact absurd H (by simp)
             ·rw [if_neg c77] at H
              have c77b0 : ((rd x4_3 1) == 1) = false := beq_eq_false_iff_ne.mpr c77; have c77b1 : ((rd x4_3 1) != 1) = true := bne_iff_ne.mpr c77
              simp only [Option.some.injEq, Prod.mk.injEq] at H
              obtain ⟨rfl, rfl⟩ := H; obtain ⟨Ao83, co83, eo83⟩ := Kd.R_slice HO_4.out; subst eo83; obtain ⟨Ao84, co84, eo84⟩ := Kd.R_slice HO_7.out; subst eo84
              try go_wp2_with (first | ((with_reducible refine gate_callee (f := 73) rfl ?_); refine gl_ (some 133) Tryz.func73 #[.slice Ao84 x7_3.length co84] rfl ?_; (with_reducible refine (spec_poSorted.calls k3 _ _ x7_3 t549 _ ?side1 ?side2 A73.out).mono ?_); (case side1 => exact cc_ (Kd.R_reads' HO_7.out).2.2); (case side2 => exact (Kd.R_reads' HO_7.out).2.1); rintro e w85 ⟨v550, rfl, ho0, hb⟩; refine ⟨_, rfl, ?_⟩; replace HO_4 := Aside0.mk (Kd.R_below (kr_ HO_4.out) hb); replace HO_5 := Aside0.mk (Kd.R_below (kr_ HO_5.out) hb); have HO551 := Aside0.mk (Kd.R_lower (Kd.R_new' ho0 (Kd.R_lt (kr_ HO_7.out))) (below_size (bl_ HB.out))); replace HO_7 := Aside0.mk (Kd.R_elder' (kr_ HO_7.out) (Kd.R_base ho0) hb); replace HB := Aside0.mk (below_step (bl_ HB.out) hb); (try clear hb); (try clear hb2); (try clear hk); (try clear hi); (try clear ho0)))
              replace HO_4 := Aside0.mk (Kd.R_drew HO_4.out); replace HO_5 := Aside0.mk (Kd.R_drew HO_5.out); replace HO_7 := Aside0.mk (Kd.R_drew HO_7.out); replace HO551 := Aside0.mk (Kd.R_drew HO551.out); replace HB := Aside0.mk (below_drew1 HB.out); have p552 : 0 ≤ (0 : Int) := (by omega)
              have q552 : 0 < (x4_3.length : Int) := of_decide_eq_true as_; obtain ⟨ad552, e552, hx552_0⟩ := Kd.at_int (Kd.R_reads' HO_4.out).2.2 0 p552 q552
              cases e552
              have qi552 : (0 < x4_3.length) = True := eq_true (by omega)
              (try rw [show ((0 : Int)).toNat = 0 from rfl] at hx552_0)
              (try rw [Addr.add_zero'] at hx552_0)
              replace p552 := eq_true p552; replace q552 := eq_true q552; have p553 : 0 ≤ (1 : Int) := (by omega)
              have q553 : 1 < (x4_3.length : Int) := of_decide_eq_true as_; obtain ⟨ad553, e553, hx553_0⟩ := Kd.at_int (Kd.R_reads' HO_4.out).2.2 1 p553 q553; obtain rfl : ad552 = ad553 := (by injection e553)
              (try simp only [show (1 : Int).toNat = 1 from rfl, Nat.reduceMul, Nat.reduceEqDiff, Go.Addr.add, ↓reduceIte] at hx553_0)
              have qi553 : (1 < x4_3.length) = True := eq_true (by omega)
              (try rw [show ((1 : Int)).toNat = 1 from rfl] at hx553_0)
              replace p553 := eq_true p553; replace q553 := eq_true q553; refine start_ (n := 19) (S := fun w' => w'.cell? ad552 = some (.int .i64 (rd x4_3 0)) ∧ w'.cell? ⟨ad552.block, ad552.off + 1, none⟩ = some (.int .i64 (rd x4_3 1))) (ds := []) #[false, false, false, false, false, false, false, false, false, false, false, false, false, false, false, false, false, false, false] (by kernel_rfl) rfl rfl ⟨hx552_0, hx553_0⟩ (fun hHeld => ?_); refine with_tabW spec_poOf.tab29 spec_poOf.bits29 (fun HT_ HW_ => ?_)
              generalize w85.drew = w86 at HO_4 HO_5 HO_7 HO551 HB hx552_0 hx553_0 hHeld ⊢
              refine pa_ 0 (some 134) rfl rfl HT_ ?_; refine pa_ 1 (some 135) rfl rfl HT_ ?_; refine pa_ 2 (some 136) rfl rfl HT_ ?_; refine ta1_ 3 (some 137) rfl rfl HT_ HW_ hHeld ?_; refine pa_ 4 (some 138) rfl rfl HT_ ?_; refine pa_ 5 (some 139) rfl rfl HT_ ?_; refine pa_ 6 (some 140) rfl rfl HT_ ?_; refine pa_ 7 (some 141) rfl rfl HT_ ?_; refine ta1_ 8 (some 142) rfl rfl HT_ HW_ hHeld ?_; refine pa_ 9 (some 143) rfl rfl HT_ ?_; refine pa_ 10 (some 144) rfl rfl HT_ ?_; refine pa_ 11 (some 145) rfl rfl HT_ ?_; refine pb_ 12 (some 146) rfl rfl HT_ ?_; refine pb_ 13 (some 147) rfl rfl HT_ ?_; refine pb_ 14 (some 148) rfl rfl HT_ ?_; refine pb_ 15 (some 149) rfl rfl HT_ ?_; refine pa_ 16 (some 150) rfl rfl HT_ ?_; refine pa_ 17 (some 2) rfl rfl HT_ ?_; refine pa_ 18 (some 3) rfl rfl HT_ ?_; refine done_ (done_of HT_.out (by kernel_rfl)) ?_
              try go_wp2
              go_ret2
              exact ⟨_, by first | rfl | (simp [errW_none, errW_some] <;> rfl) | (simp [*, errW_none, errW_some] <;> rfl), by (with_reducible repeat (first | apply Kd.R_alloc | apply Kd.R_drewN | apply Kd.R_drew)); exact Kd.R_mono HO551.out (fun _ hk => trivial), bl_ HB.out⟩
            ·rw [if_neg c76] at H
             exact absurd H (by simp)
           ·rw [if_neg c75] at H
            have c75b0 : ((rd x4_3 0) == 1) = false := beq_eq_false_iff_ne.mpr c75; have c75b1 : ((rd x4_3 0) != 1) = true := bne_iff_ne.mpr c75
            simp only [Option.some.injEq, Prod.mk.injEq] at H
            obtain ⟨rfl, rfl⟩ := H; obtain ⟨Ao87, co87, eo87⟩ := Kd.R_slice HO_4.out; subst eo87; obtain ⟨Ao88, co88, eo88⟩ := Kd.R_slice HO_7.out; subst eo88
            try go_wp2_with (first | ((with_reducible refine gate_callee (f := 73) rfl ?_); refine gl_ (some 133) Tryz.func73 #[.slice Ao88 x7_3.length co88] rfl ?_; (with_reducible refine (spec_poSorted.calls k3 _ _ x7_3 t549 _ ?side1 ?side2 A73.out).mono ?_); (case side1 => exact cc_ (Kd.R_reads' HO_7.out).2.2); (case side2 => exact (Kd.R_reads' HO_7.out).2.1); rintro e w89 ⟨v550, rfl, ho0, hb⟩; refine ⟨_, rfl, ?_⟩; replace HO_4 := Aside0.mk (Kd.R_below (kr_ HO_4.out) hb); replace HO_5 := Aside0.mk (Kd.R_below (kr_ HO_5.out) hb); have HO551 := Aside0.mk (Kd.R_lower (Kd.R_new' ho0 (Kd.R_lt (kr_ HO_7.out))) (below_size (bl_ HB.out))); replace HO_7 := Aside0.mk (Kd.R_elder' (kr_ HO_7.out) (Kd.R_base ho0) hb); replace HB := Aside0.mk (below_step (bl_ HB.out) hb); (try clear hb); (try clear hb2); (try clear hk); (try clear hi); (try clear ho0)))
            replace HO_4 := Aside0.mk (Kd.R_drew HO_4.out); replace HO_5 := Aside0.mk (Kd.R_drew HO_5.out); replace HO_7 := Aside0.mk (Kd.R_drew HO_7.out); replace HO551 := Aside0.mk (Kd.R_drew HO551.out); replace HB := Aside0.mk (below_drew1 HB.out); have p552 : 0 ≤ (0 : Int) := (by omega)
            have q552 : 0 < (x4_3.length : Int) := of_decide_eq_true as_; obtain ⟨ad552, e552, hx552_0⟩ := Kd.at_int (Kd.R_reads' HO_4.out).2.2 0 p552 q552
            cases e552
            have qi552 : (0 < x4_3.length) = True := eq_true (by omega)
            (try rw [show ((0 : Int)).toNat = 0 from rfl] at hx552_0)
            (try rw [Addr.add_zero'] at hx552_0)
            replace p552 := eq_true p552; replace q552 := eq_true q552; refine start_ (n := 19) (S := fun w' => w'.cell? ad552 = some (.int .i64 (rd x4_3 0))) (ds := []) #[false, false, false, false, false, false, false, false, false, false, false, false, false, false, false, false, false, false, false] (by kernel_rfl) rfl rfl (hx552_0) (fun hHeld => ?_); refine with_tabW spec_poOf.tab29 spec_poOf.bits29 (fun HT_ HW_ => ?_)
            generalize w89.drew = w90 at HO_4 HO_5 HO_7 HO551 HB hx552_0 hHeld ⊢
            refine pa_ 0 (some 134) rfl rfl HT_ ?_; refine pa_ 1 (some 135) rfl rfl HT_ ?_; refine pa_ 2 (some 136) rfl rfl HT_ ?_; refine take_ (i := 3) (N := some 137) (v := ?_) (a' := ?_) #[true, true, true, true, false, false, false, false, false, false, false, false, false, false, false, false, false, false, false] rfl rfl (take_ofW HT_.out HW_.out (by kernel_rfl)) (fun _ _ _ h => h) (Or.inl ⟨by rfl, ?_⟩) hHeld ?_ ?_
            rotate_left
            ·intro w' s0
             go_simp
             with_reducible rfl
            rotate_left
            ·simp only [Act.put, List.setIfInBounds_toArray, List.set_cons_zero, List.set_cons_succ, i64_w, i32_w]
             rfl
            refine pa_ 4 (some 138) rfl rfl HT_ ?_; refine pa_ 5 (some 139) rfl rfl HT_ ?_; refine pb_ 6 (some 140) rfl rfl HT_ ?_; refine pb_ 7 (some 141) rfl rfl HT_ ?_; refine pb_ 8 (some 142) rfl rfl HT_ ?_; refine pb_ 9 (some 143) rfl rfl HT_ ?_; refine pa_ 10 (some 144) rfl rfl HT_ ?_; refine pa_ 11 (some 145) rfl rfl HT_ ?_; refine pb_ 12 (some 146) rfl rfl HT_ ?_; refine pb_ 13 (some 147) rfl rfl HT_ ?_; refine pb_ 14 (some 148) rfl rfl HT_ ?_; refine pb_ 15 (some 149) rfl rfl HT_ ?_; refine pa_ 16 (some 150) rfl rfl HT_ ?_; refine pa_ 17 (some 2) rfl rfl HT_ ?_; refine pa_ 18 (some 3) rfl rfl HT_ ?_; refine done_ (done_of HT_.out (by kernel_rfl)) ?_
            try go_wp2
            go_ret2
            exact ⟨_, by first | rfl | (simp [errW_none, errW_some] <;> rfl) | (simp [*, errW_none, errW_some] <;> rfl), by (with_reducible repeat (first | apply Kd.R_alloc | apply Kd.R_drewN | apply Kd.R_drew)); exact Kd.R_mono HO551.out (fun _ hk => trivial), bl_ HB.out⟩
          ·rw [if_neg c74] at H
           exact absurd H (by simp)
end Go.Proofs.YtcfcnnnkpdhecaaGreat.PFnContinuantsSplit
