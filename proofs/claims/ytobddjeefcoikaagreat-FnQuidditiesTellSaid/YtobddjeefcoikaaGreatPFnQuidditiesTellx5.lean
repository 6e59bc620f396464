-- Written for this claim by a program of this session (wip/tools/xprint.py over the kit's printer, wip/tools/shrink.py).
import Derived.Test.YtobddjeefcoikaaGreatPFnQuidditiesTellx0
import Derived.Test.YtobddjeefcoikaaGreatPFnQuidditiesTellx2
import Derived.Test.YtobddjeefcoikaaGreatPFnQuidditiesTellx3
import Derived.Test.YtobddjeefcoikaaGreatPFnQuidditiesTellx4
namespace Go.Proofs.YtobddjeefcoikaaGreat.PFnQuidditiesTell
open Go.RowKit Go.Proofs.YtobddjeefcoikaaGreatW.PrintWords Go.Proofs.YtobddjeefcoikaaGreatW.PrintLast Go.Proofs.YtobddjeefcoikaaGreatW.PrintMore
attribute [local go_sem] max2_int min2_int max_two min_two max_three min_three max_four min_four   -- for this text's walks alone
set_option linter.unusedVariables false
set_option linter.unusedSimpArgs false
mutual
def spec_poOf.j0 : Nat → List Int → Bool → Option ((List (S46)) × Bool)
 | 0, _, _ => none
 | k + 1, x0, x21 => if x21 = true then (some (([] : List (S46)), false)) else ((spec_l1Own.f x0).bind fun t171 => (spec_poOf.l0 k t171 (([] : List Int)) (t171.length : Int) 0))
def spec_poOf.l0 : Nat → List Int → List Int → Int → Int → Option ((List (S46)) × Bool)
 | 0, _, _, _, _ => none
 | k + 1, x4, x5, x26, x27 => if x27 < x26 then (if x5.length < 17592186044416 then (spec_poOf.l0 k x4 (x5 ++ [x27]) x26 (wrap64 (x27 + 1))) else (none)) else (spec_poOf.l1 k x4 x5 ([] : List (S46)))
def spec_poOf.l1 : Nat → List Int → List Int → List (S46) → Option ((List (S46)) × Bool)
 | 0, _, _, _ => none
 | k + 1, x4, x5, x7 => if (x4.length : Int) > 3 then (spec_poOf.l2 k x4 x5 x7 (-1) x4 (x4.length : Int) 0) else ((spec_poSorted.f k x7).bind fun t180 => (if 0 < (x4.length : Int) then (if (rd x4 0) = 1 then (if 1 < (x4.length : Int) then (if (rd x4 1) = 1 then (if 2 < (x4.length : Int) then (some (t180, ((rd x4 2) == 1))) else (none)) else (some (t180, false))) else (none)) else (some (t180, false))) else (none)))
def spec_poOf.l2 : Nat → List Int → List Int → List (S46) → Int → List Int → Int → Int → Option ((List (S46)) × Bool)
 | 0, _, _, _, _, _, _, _ => none
 | k + 1, x4, x5, x7, x8, x38, x39, x40 => if x40 < x39 then (if 0 ≤ x40 then (if x40 < (x38.length : Int) then (if (rd x38 x40) = 1 then (if x8 < 0 then (spec_poOf.l2 k x4 x5 x7 x40 x38 x39 (wrap64 (x40 + 1))) else (spec_poOf.l2 k x4 x5 x7 x8 x38 x39 (wrap64 (x40 + 1)))) else (spec_poOf.l2 k x4 x5 x7 x8 x38 x39 (wrap64 (x40 + 1)))) else (none)) else (none)) else (if x8 < 0 then (some (([] : List (S46)), false)) else (if (x4.length : Int) = 0 then (none) else (if 0 ≤ (Int.tmod (wrap64 ((wrap64 (x8 + (x4.length : Int))) - 1)) (x4.length : Int)) then (if (Int.tmod (wrap64 ((wrap64 (x8 + (x4.length : Int))) - 1)) (x4.length : Int)) < (x4.length : Int) then ((some (x4.set ((Int.tmod (wrap64 ((wrap64 (x8 + (x4.length : Int))) - 1)) (x4.length : Int)) : Int).toNat (wrap64 ((rd x4 (Int.tmod (wrap64 ((wrap64 (x8 + (x4.length : Int))) - 1)) (x4.length : Int))) - 1)) : List Int)).bind fun y188 => (if 0 ≤ (Int.tmod (wrap64 (x8 + 1)) (x4.length : Int)) then (if (Int.tmod (wrap64 (x8 + 1)) (x4.length : Int)) < (x4.length : Int) then ((some (y188.set ((Int.tmod (wrap64 (x8 + 1)) (x4.length : Int)) : Int).toNat (wrap64 ((rd y188 (Int.tmod (wrap64 (x8 + 1)) (x4.length : Int))) - 1)) : List Int)).bind fun y190 => (if (rd y190 (Int.tmod (wrap64 ((wrap64 (x8 + (x4.length : Int))) - 1)) (x4.length : Int))) < 1 then (spec_poOf.j4 k y190 x5 x7 x8 (Int.tmod (wrap64 ((wrap64 (x8 + (x4.length : Int))) - 1)) (x4.length : Int)) (Int.tmod (wrap64 (x8 + 1)) (x4.length : Int)) true) else (spec_poOf.j4 k y190 x5 x7 x8 (Int.tmod (wrap64 ((wrap64 (x8 + (x4.length : Int))) - 1)) (x4.length : Int)) (Int.tmod (wrap64 (x8 + 1)) (x4.length : Int)) (decide ((rd y190 (Int.tmod (wrap64 (x8 + 1)) (x4.length : Int))) < 1))))) else (none)) else (none))) else (none)) else (none))))
def spec_poOf.j4 : Nat → List Int → List Int → List (S46) → Int → Int → Int → Bool → Option ((List (S46)) × Bool)
 | 0, _, _, _, _, _, _, _ => none
 | k + 1, x4, x5, x7, x8, x11, x12, x91 => if x91 = true then (some (([] : List (S46)), false)) else (if 0 ≤ x11 then (if x11 < (x5.length : Int) then (if 0 ≤ x12 then (if x12 < (x5.length : Int) then ((spec_l1Least.f (rd x5 x11) (rd x5 x12)).bind fun t195 => ((spec_l1Most.f (rd x5 x11) (rd x5 x12)).bind fun t198 => (if x7.length < 8796093022208 then (if 0 ≤ x8 then (if x8 ≤ (x4.length : Int) then ((spec_l1Own.f (x4.take (x8 : Int).toNat)).bind fun t206 => (if 0 ≤ (wrap64 (x8 + 1)) then (if (wrap64 (x8 + 1)) ≤ (x4.length : Int) then ((some (x4.drop ((wrap64 (x8 + 1)) : Int).toNat : List Int)).bind fun y209 => (if t206.length + y209.length < 17592186044416 then (if x8 ≤ (x5.length : Int) then ((spec_l1Own.f (x5.take (x8 : Int).toNat)).bind fun t220 => (if (wrap64 (x8 + 1)) ≤ (x5.length : Int) then ((some (x5.drop ((wrap64 (x8 + 1)) : Int).toNat : List Int)).bind fun y223 => (if t220.length + y223.length < 17592186044416 then (spec_poOf.l1 k (t206 ++ y209) (t220 ++ y223) (x7 ++ [(⟨t195, t198⟩ : S46)])) else (none))) else (none))) else (none)) else (none))) else (none)) else (none))) else (none)) else (none)) else (none)))) else (none)) else (none)) else (none)) else (none))
end
def spec_poOf.f (k : Nat) (l0 : List Int) : Option ((List (S46)) × Bool) := (spec_poIs.f (l0.length : Int)).bind fun t169 => (if t169 = true then ((spec_l1All.f k l0 1 12).bind fun t170 => (spec_poOf.j0 k l0 (!t170))) else (spec_poOf.j0 k l0 true))
def spec_poOf.T20 : Bool × List (List Nat × List Nat) := (true, [([], []), ([], []), ([1], [1]), ([0, 2], [0, 2]), ([3], [3]), ([], []), ([5], [5]), ([4, 6], [4, 6]), ([], []), ([8], [8]), ([], []), ([10], [10]), ([9, 11], [9, 11]), ([7, 0, 1, 2, 3, 4, 5, 6, 7], [7]), ([12, 13, 0, 1, 2, 3, 4, 5, 6, 7, 8, 9, 10, 11, 12, 13], [12])])
def spec_poOf.B20 : List Nat := [0, 0, 2, 7, 15, 0, 32, 127, 0, 256, 0, 1024, 3840, 255, 16383]
theorem spec_poOf.tab20 : rtab .any (opsOf Tryz.f77 20) = spec_poOf.T20 := by kernel_rfl
theorem spec_poOf.bits20 : waitsOk spec_poOf.T20.2 spec_poOf.B20 = true := by kernel_rfl
def spec_poOf.T25 : Bool × List (List Nat × List Nat) := (true, [([], []), ([], []), ([], []), ([1, 2], [1, 2]), ([3], [3]), ([], []), ([], []), ([5, 6], [5, 6]), ([7], [7]), ([4, 8], [4, 8]), ([], []), ([], []), ([10, 11], [10, 11]), ([12], [12]), ([], []), ([], []), ([14, 15], [14, 15]), ([16], [16]), ([13, 17, 9], [13, 17]), ([9, 18], [9, 18]), ([19], [19]), ([0, 20, 18], [0, 20]), ([21, 21, 0, 1, 2, 3, 4, 5, 6, 7, 8, 9, 10, 11, 12, 13, 14, 15, 16, 17, 18, 19, 20, 21], [0, 21])])
def spec_poOf.B25 : List Nat := [0, 0, 0, 6, 14, 0, 0, 96, 224, 510, 0, 0, 3072, 7168, 0, 0, 49152, 114688, 262142, 524286, 1048574, 2097151, 4194303]
theorem spec_poOf.tab25 : rtab .any (opsOf Tryz.f77 25) = spec_poOf.T25 := by kernel_rfl
theorem spec_poOf.bits25 : waitsOk spec_poOf.T25.2 spec_poOf.B25 = true := by kernel_rfl
def spec_poOf.T26 : Bool × List (List Nat × List Nat) := (true, [([], []), ([], []), ([0, 1], [0, 1]), ([2], [2]), ([], []), ([], []), ([5], [5]), ([4, 6], [4, 6]), ([3, 7, 3], [3, 7]), ([8, 8, 0, 1, 2, 3, 4, 5, 6, 7, 8], [0, 4, 8])])
def spec_poOf.B26 : List Nat := [0, 0, 3, 7, 0, 0, 32, 112, 255, 511]
theorem spec_poOf.tab26 : rtab .any (opsOf Tryz.f77 26) = spec_poOf.T26 := by kernel_rfl
theorem spec_poOf.bits26 : waitsOk spec_poOf.T26.2 spec_poOf.B26 = true := by kernel_rfl
def spec_poOf.T27 : Bool × List (List Nat × List Nat) := (true, [([], []), ([], []), ([0, 1], [0, 1]), ([2], [2]), ([], []), ([], []), ([5], [5]), ([4, 6], [4, 6]), ([3, 7, 3], [3, 7]), ([8, 8, 0, 1, 2, 3, 4, 5, 6, 7, 8], [0, 4, 8])])
def spec_poOf.B27 : List Nat := [0, 0, 3, 7, 0, 0, 32, 112, 255, 511]
theorem spec_poOf.tab27 : rtab .any (opsOf Tryz.f77 27) = spec_poOf.T27 := by kernel_rfl
theorem spec_poOf.bits27 : waitsOk spec_poOf.T27.2 spec_poOf.B27 = true := by kernel_rfl
def spec_poOf.T29 : Bool × List (List Nat × List Nat) := (true, [([], []), ([], []), ([1], [1]), ([2], [2]), ([3], [3]), ([4], [4]), ([5], [5]), ([6, 5], [5, 6]), ([7, 5], [5, 7]), ([8, 5], [5, 8]), ([5, 9], [5, 9]), ([10, 5], [10]), ([11], [11]), ([12, 11], [11, 12]), ([13, 11], [11, 13]), ([14, 11], [11, 14]), ([11, 15], [11, 15]), ([0, 11, 0], [0]), ([16, 17, 0, 1, 2, 3, 4, 5, 6, 7, 8, 9, 10, 11, 12, 13, 14, 15, 16, 17], [16])])
def spec_poOf.B29 : List Nat := [0, 0, 2, 6, 14, 30, 62, 126, 254, 510, 1022, 2046, 4094, 8190, 16382, 32766, 65534, 4095, 262143]
theorem spec_poOf.tab29 : rtab .any (opsOf Tryz.f77 29) = spec_poOf.T29 := by kernel_rfl
theorem spec_poOf.bits29 : waitsOk spec_poOf.T29.2 spec_poOf.B29 = true := by kernel_rfl
set_option maxHeartbeats 8000000 in
set_option maxRecDepth 100000 in
theorem spec_poOf.calls (k : Nat) (A0 : Option Addr) (c0 : Nat) (l0 : List Int) (r1 : List (S46)) (r2 : Bool) (w : World) (hr0 : Kd.C (Kd.int .i64) w A0 l0.length l0) (hc0 : l0.length ≤ c0) (h : spec_poOf.f k l0 = some (r1, r2)) :
  Calls Tryz.prog 77 #[.slice A0 l0.length c0] w fun e w' => ∃ v0_ : Value, e = .returned (.tuple #[v0_, .bool r2]) ∧ Kd.R k46 46 w' w.heap.size (fun _ => True) v0_ r1 ∧ Below w.heap.size w w' := by
 have hu46 := Tryz.underlying46; have HR0 := Aside0.mk hr0; have HC0 := Aside0.mk hc0; clear hr0 hc0; have HB := Aside0.mk (Below.refl w.heap.size w); have H : ((spec_poIs.f (l0.length : Int)).bind fun t169 => (if t169 = true then ((spec_l1All.f k l0 1 12).bind fun t170 => (spec_poOf.j0 k l0 (!t170))) else (spec_poOf.j0 k l0 true))) = some (r1, r2) := h
 clear h; have HC2 := Aside0.mk H; clear H
 go_enter Tryz.func77, Tryz.ntmps77
 go_upto_region 1 with (fail)
 go_cut [21] (fun v21 wc => ∃ (kq : Nat) (x21_1 : Bool), v21 = .bool x21_1 ∧ Aside0 (spec_poOf.j0 kq l0 x21_1 = some (r1, r2)) ∧ Aside0 (kq ≤ k) ∧ Aside0 (Below w.heap.size w wc))
 case first =>
  have H := HC2.out; clear HC2; replace H := Option.bind_eq_some_iff.mp H; obtain ⟨t169, A30, H⟩ := H; have A3 := Aside0.mk A30; clear A30
  by_cases c4 : t169 = true
  ·subst c4
   rw [if_pos rfl] at H
   replace H := Option.bind_eq_some_iff.mp H; obtain ⟨t170, A50, H⟩ := H; have A5 := Aside0.mk A50; clear A50; have H' := Aside0.mk H; clear H
   go_wp2_with (first | ((with_reducible refine gate_callee (f := 58) rfl ?_); refine gl_ (some 15) Tryz.func58 #[.int .i64 (l0.length : Int)] rfl ?_; (with_reducible refine (spec_poIs.calls (l0.length : Int) true _ A3.out).mono ?_); rintro e w' ⟨rfl, ⟨nd, rfl⟩⟩; refine ⟨_, rfl, ?_⟩) | (go_at_call 89; (with_reducible refine (spec_l1All.calls k _ _ l0 1 12 t170 _ ?side1 ?side2 A5.out).mono ?_); (case side1 => exact cc_ (Kd.C_below HR0.out (bl_ HB.out))); (case side2 => exact HC0.out); rintro e w' ⟨rfl, ⟨nd, rfl⟩⟩))
   go_meet
   case rel => exact ⟨_, (!t170), (fs_), H', ⟨by first | omega | exact Nat.le_refl _⟩, ⟨bl_ HB.out⟩⟩
  ·replace c4 := Bool.eq_false_iff.mpr c4
   subst c4; rw [if_neg (show ¬ (false = true) by decide)] at H
   have H' := Aside0.mk H; clear H
   go_wp2_with (first | ((with_reducible refine gate_callee (f := 58) rfl ?_); refine gl_ (some 15) Tryz.func58 #[.int .i64 (l0.length : Int)] rfl ?_; (with_reducible refine (spec_poIs.calls (l0.length : Int) false _ A3.out).mono ?_); rintro e w' ⟨rfl, ⟨nd, rfl⟩⟩; refine ⟨_, rfl, ?_⟩))
   go_meet
   case rel => exact ⟨_, (true), (fs_), H', ⟨by first | omega | exact Nat.le_refl _⟩, ⟨bl_ HB.out⟩⟩
 case rest =>
  clear HC2
  try clear p2
  try clear c4
  try clear c5
  obtain ⟨kq, x21_1, rfl, HA, HJ1, HB⟩ := hcut
  cases kq with
  | zero => exact absurd HA.out (by simp [spec_poOf.j0])
  | succ kj1 =>
   have H := HA.out; clear HA
   simp only [spec_poOf.j0] at H
   by_cases c6 : x21_1 = true
   ·subst c6
    rw [if_pos rfl] at H
    simp only [Option.some.injEq, Prod.mk.injEq] at H
    obtain ⟨rfl, rfl⟩ := H
    go_wp2
    go_ret2
    exact ⟨_, by first | rfl | (simp [errW_none, errW_some] <;> rfl) | (simp [*, errW_none, errW_some] <;> rfl), by first | exact Kd.R_nil _ _ _ _ _ | exact Kd.N_nil _ _ _ _ _ | exact Kd.V_nil _ _ _ _ _ | exact Kd.Q_nil _ _ _ _ _ | exact Kd.S_nil _ _ _ _ _, bl_ HB.out⟩
   ·replace c6 := Bool.eq_false_iff.mpr c6
    subst c6; rw [if_neg (show ¬ (false = true) by decide)] at H
    replace H := Option.bind_eq_some_iff.mp H; obtain ⟨t171, A70, H⟩ := H; have A7 := Aside0.mk A70; clear A70; obtain ⟨y174, hy174⟩ : ∃ y_ : List Int, y_ = (([] : List Int)) := ⟨_, rfl⟩; replace H : (spec_poOf.l0 kj1 t171 y174 (t171.length : Int) 0) = some (r1, r2) := rh_ hy174 H; have Ny174 := Aside0.mk hy174; clear hy174; have H' := Aside0.mk H; clear H
    go_wp2_with (first | ((with_reducible refine gate_callee (f := 90) rfl ?_); refine gl_ (some 23) Tryz.func90 #[.slice A0 l0.length c0] rfl ?_; (with_reducible refine (spec_l1Own.calls _ _ l0 t171 _ ?side1 ?side2 A7.out).mono ?_); (case side1 => exact cc_ (Kd.C_below HR0.out HB.out)); (case side2 => exact HC0.out); rintro e w8 ⟨v172, rfl, ho0, hb⟩; refine ⟨_, rfl, ?_⟩; have HO173 := Aside0.mk (Kd.R_lower ho0 (below_size (bl_ HB.out))); replace HB := Aside0.mk (below_step (bl_ HB.out) hb); (try clear hb); (try clear hb2); (try clear hk); (try clear hi); (try clear ho0)) | ((with_reducible refine gate_dst (N := 24) rfl ?_); refine Kd.R_lit (Kd.int .i64) _ 3 ?hg (N := 24) ?hd (xs := ([] : List Int)) (inner := []) (ok := fun _ => True) (okp := fun _ => True) ?hr ?hp (fun _ hk => hk) trivial (Below.refl _ _) (Nat.le_refl _) (by simp) ?_; (case hd => rfl); (case hg => rfl); (case hr => first | (go_simp; done) | (go_simp; rfl)); (case hp => exact (Reps.none _ _)); intro v175 w9 ho10 hb hg_ hnew_; clear hg_ hnew_; (first | rw [← Ny174.out] at ho10 | (simp only [Int.reduceToNat] at ho10; rw [← Ny174.out] at ho10)); have HO176 := Aside0.mk (Kd.R_lower (Kd.R_new' ho10 (Kd.R_lt (kr_ HO173.out))) (below_size (bl_ HB.out))); replace HO173 := Aside0.mk (Kd.R_elder' (kr_ HO173.out) (Kd.R_base ho10) hb); replace HB := Aside0.mk (below_step (bl_ HB.out) hb); clear hb ho10; obtain ⟨Ao11, co11, eo11⟩ := Kd.R_slice HO173.out; subst eo11))
    go_loopg [5, 27] kj1 (fun kq v5 v27 w' => ∃ (x5_2 : List Int) (x27_2 : Int), v27 = .int .i64 x27_2 ∧ Aside0 (spec_poOf.l0 kq t171 x5_2 (t171.length : Int) x27_2 = some (r1, r2)) ∧ Aside0 (kq ≤ kj1) ∧ Aside0 (Kd.R (Kd.int .i64) 3 w' w.heap.size (fun k_ => some k_ ≠ (v5 : Value).ownBlock) (.slice Ao11 t171.length co11) t171) ∧ Aside0 (Kd.R (Kd.int .i64) 3 w' w.heap.size (fun k_ => some k_ ≠ ((.slice Ao11 t171.length co11) : Value).ownBlock) v5 x5_2) ∧ Aside0 (Below w.heap.size w w'))
    case atStart => exact ⟨(y174), (0), (fs_), H', ⟨Nat.le_refl _⟩, ⟨by (with_reducible repeat (first | apply Kd.R_alloc | apply Kd.R_drewN | apply Kd.R_drew)); exact Kd.R_mono HO173.out (fun _ hk => hk.2)⟩, ⟨by (with_reducible repeat (first | apply Kd.R_alloc | apply Kd.R_drewN | apply Kd.R_drew)); exact Kd.R_mono HO176.out (fun _ hk => hk.2)⟩, ⟨bl_ HB.out⟩⟩
    case round =>
     clear H'
     try clear p2
     try clear c4
     try clear c5
     try clear c6
     try clear c7
     try clear c9
     try clear p2
     obtain ⟨x5_2, x27_2, rfl, HA, HK2, HO_4, HO_5, HB⟩ := hrel
     cases gk with
     | zero => exact absurd HA.out (by simp [spec_poOf.l0])
     | succ k2 =>
      have H := HA.out; clear HA
      simp only [spec_poOf.l0] at H
      by_cases c12 : x27_2 < (t171.length : Int)
      ·rw [if_pos c12] at H
       have c12b0 : decide (x27_2 < (t171.length : Int)) = true := decide_eq_true c12; clear c12
       by_cases c13 : x5_2.length < 17592186044416
       ·rw [if_pos c13] at H
        have LMc13 := Aside0.mk c13; clear c13; obtain ⟨y177, hy177⟩ : ∃ y_ : List Int, y_ = (x5_2 ++ [x27_2]) := ⟨_, rfl⟩; replace H : (spec_poOf.l0 k2 t171 y177 (t171.length : Int) (wrap64 (x27_2 + 1))) = some (r1, r2) := rh_ hy177 H; have Ny177 := Aside0.mk hy177; clear hy177; have H' := Aside0.mk H; clear H
        go_wp2_with (first | ((with_reducible refine gate_builtin (b := .append) (xs := #[.tmp 30, .tmp 32]) rfl ?_); at_builtin; refine Kd.R_append (Kd.int .i64) (w0 := w) w.heap.size rfl (.tmp 30) (.tmp 32) 27 3 (.int .i64 0) 8 rfl Tryz.underlying27 info3 rfl (by decide) (by omega) u5 x5_2 x27_2 [.int .i64 x27_2] (fun k_ => some k_ ≠ (.slice Ao11 t171.length co11 : Value).ownBlock) (fun _ => False) rfl rfl ?aP (fun _ hk => hk.elim) ?aF ?aO ?aB ?aS ?aL ?_; (case aP => exact rfl); (case aB => exact (bl_ HB.out)); (case aF => exact (fun k_ hk => Kd.fresh' (Kd.R_lt (kr_ HO_4.out)) k_ hk)); (case aO => exact (kr_ HO_5.out)); (case aS => exact (below_size (bl_ HB.out))); (case aL => have := LMc13.out; omega); intro v178 w14 ho hb hg hat; rw [← Ny177.out] at ho; replace HO_4 := Aside0.mk (Kd.R_after (ok := (fun _ => True)) (by (with_reducible repeat (first | apply Kd.R_alloc | apply Kd.R_drewN | apply Kd.R_drew)); exact Kd.R_mono HO_4.out (fun _ hk => ⟨trivial, hk⟩)) hg hat); replace HB := Aside0.mk (hb); have HO179 := Aside0.mk (ho); clear HO_5 ho hb hg hat))
        go_roundg k2
        case measure => have := HJ1.out; have := HK2.out; omega
        case rel => exact ⟨(y177), (wrap64 (x27_2 + 1)), (fs_), H', ⟨by have := HJ1.out; have := HK2.out; omega⟩, ⟨by (with_reducible repeat (first | apply Kd.R_alloc | apply Kd.R_drewN | apply Kd.R_drew)); exact Kd.R_mono HO_4.out (fun _ hk => hk.2)⟩, ⟨kr_ HO179.out⟩, ⟨bl_ HB.out⟩⟩
       ·rw [if_neg c13] at H
        exact absurd H (by simp)
      ·rw [if_neg c12] at H
       have c12b0 : decide (x27_2 < (t171.length : Int)) = false := decide_eq_false c12; clear c12; have H' := Aside0.mk H; clear H
       go_wp2
       go_loopg [4, 5, 7] k2 (fun kq v4 v5 v7 w' => ∃ (x4_3 : List Int) (x5_3 : List Int) (x7_3 : List (S46)), Aside0 (spec_poOf.l1 kq x4_3 x5_3 x7_3 = some (r1, r2)) ∧ Aside0 (kq ≤ k2) ∧ Aside0 (Kd.R (Kd.int .i64) 3 w' w.heap.size (fun k_ => some k_ ≠ (v5 : Value).ownBlock) v4 x4_3) ∧ Aside0 (Kd.R (Kd.int .i64) 3 w' w.heap.size (fun k_ => some k_ ≠ (v4 : Value).ownBlock) v5 x5_3) ∧ Aside0 (Kd.R k46 46 w' w.heap.size (fun _ => True) v7 x7_3) ∧ Aside0 (Below w.heap.size w w'))
       case atStart => exact ⟨(t171), (x5_2), (([] : List (S46))), H', ⟨Nat.le_refl _⟩, ⟨kr_ HO_4.out⟩, ⟨kr_ HO_5.out⟩, ⟨by first | exact Kd.R_nil _ _ _ _ _ | exact Kd.N_nil _ _ _ _ _ | exact Kd.V_nil _ _ _ _ _ | exact Kd.Q_nil _ _ _ _ _ | exact Kd.S_nil _ _ _ _ _⟩, ⟨bl_ HB.out⟩⟩
       case round =>
        clear H'
        try clear c1
        try clear p2
        try clear c4
        try clear c5
        try clear c6
        try clear p6
        try clear c7
        try clear c9
        try clear c12
        try clear c12b0
        try clear c13
        try clear p2
        obtain ⟨x4_3, x5_3, x7_3, HA, HK3, HO_4, HO_5, HO_7, HB⟩ := hrel
        cases gk with
        | zero => exact absurd HA.out (by simp [spec_poOf.l1])
        | succ k3 =>
         have H := HA.out; clear HA
         simp only [spec_poOf.l1] at H
         by_cases c15 : (x4_3.length : Int) > 3
         ·rw [if_pos c15] at H
          have c15b0 : decide (3 < (x4_3.length : Int)) = true := decide_eq_true c15; have c15b1 : decide (3 < x4_3.length) = true := decide_eq_true (by omega)
          clear c15; have H' := Aside0.mk H; clear H; obtain ⟨Ao16, co16, eo16⟩ := Kd.R_slice HO_4.out; subst eo16
          go_wp2
          go_loopg [8, 40] k3 (fun kq v8 v40 w' => ∃ (x8_4 : Int) (x40_4 : Int), v8 = .int .i64 x8_4 ∧ v40 = .int .i64 x40_4 ∧ Aside0 (spec_poOf.l2 kq x4_3 x5_3 x7_3 x8_4 x4_3 (x4_3.length : Int) x40_4 = some (r1, r2)) ∧ Aside0 (kq ≤ k3) ∧ Aside0 (Kd.R (Kd.int .i64) 3 w' w.heap.size (fun k_ => some k_ ≠ (u5 : Value).ownBlock) (.slice Ao16 x4_3.length co16) x4_3) ∧ Aside0 (Kd.R (Kd.int .i64) 3 w' w.heap.size (fun k_ => some k_ ≠ ((.slice Ao16 x4_3.length co16) : Value).ownBlock ∧ some k_ ≠ ((.slice Ao16 x4_3.length co16) : Value).ownBlock) u5 x5_3) ∧ Aside0 (Kd.R k46 46 w' w.heap.size (fun _ => True) u7 x7_3) ∧ Aside0 (Kd.R (Kd.int .i64) 3 w' w.heap.size (fun k_ => some k_ ≠ (u5 : Value).ownBlock) (.slice Ao16 x4_3.length co16) x4_3) ∧ Aside0 (Below w.heap.size w w'))
          case atStart => exact ⟨((-1)), (0), (fs_), (fs_), H', ⟨Nat.le_refl _⟩, ⟨kr_ HO_4.out⟩, ⟨by (with_reducible repeat (first | apply Kd.R_alloc | apply Kd.R_drewN | apply Kd.R_drew)); exact Kd.R_mono HO_5.out (fun _ hk => ⟨hk, hk⟩)⟩, ⟨kr_ HO_7.out⟩, ⟨kr_ HO_4.out⟩, ⟨bl_ HB.out⟩⟩
          case round =>
           clear H'
           try clear c1
           try clear p2
           try clear c4
           try clear c5
           try clear c6
           try clear p6
           try clear c7
           try clear c9
           try clear c12
           try clear c12b0
           try clear c13
           try clear c15
           try clear c15b0
           try clear c15b1
           try clear p2
           try clear p6
           obtain ⟨x8_4, x40_4, rfl, rfl, HA, HK4, HO_4, HO_5, HO_7, HO_38, HB⟩ := hrel
           cases gk with
           | zero => exact absurd HA.out (by simp [spec_poOf.l2])
           | succ k4 =>
            have H := HA.out; clear HA
            simp only [spec_poOf.l2] at H
            by_cases c17 : x40_4 < (x4_3.length : Int)
            ·rw [if_pos c17] at H
             have c17b0 : decide (x40_4 < (x4_3.length : Int)) = true := decide_eq_true c17; clear c17
             by_cases c18 : 0 ≤ x40_4
             ·rw [if_pos c18] at H
              have c18b0 : decide (0 ≤ x40_4) = true := decide_eq_true c18; clear c18
              by_cases c19 : x40_4 < (x4_3.length : Int)
              ·rw [if_pos c19] at H
               have c19b0 : decide (x40_4 < (x4_3.length : Int)) = true := decide_eq_true c19; clear c19
               by_cases c20 : (rd x4_3 x40_4) = 1
               ·rw [if_pos c20] at H
                have c20b0 : ((rd x4_3 x40_4) == 1) = true := beq_iff_eq.mpr c20; have c20b1 : ((rd x4_3 x40_4) != 1) = false := bne_eq_false_iff_eq.mpr c20; clear c20
                by_cases c21 : x8_4 < 0
                ·rw [if_pos c21] at H
                 have c21b0 : decide (x8_4 < 0) = true := decide_eq_true c21; clear c21; have H' := Aside0.mk H; clear H; have p186 : 0 ≤ (x40_4 : Int) := of_decide_eq_true as_; have q186 : x40_4 < (x4_3.length : Int) := of_decide_eq_true as_; obtain ⟨ad186, e186, hx186_0⟩ := Kd.at_int (Kd.R_reads' HO_38.out).2.2 x40_4 p186 q186
                 cases e186
                 replace p186 := eq_true p186; replace q186 := eq_true q186
                 go_wp2
                 go_roundg k4
                 case measure => have := HJ1.out; have := HK2.out; have := HK3.out; have := HK4.out; omega
                 case rel => exact ⟨(x40_4), (wrap64 (x40_4 + 1)), (fs_), (fs_), H', ⟨by have := HJ1.out; have := HK2.out; have := HK3.out; have := HK4.out; omega⟩, ⟨kr_ HO_4.out⟩, ⟨kr_ HO_5.out⟩, ⟨kr_ HO_7.out⟩, ⟨kr_ HO_38.out⟩, ⟨bl_ HB.out⟩⟩
                ·rw [if_neg c21] at H
                 have c21b0 : decide (x8_4 < 0) = false := decide_eq_false c21; clear c21; have H' := Aside0.mk H; clear H; have p186 : 0 ≤ (x40_4 : Int) := of_decide_eq_true as_; have q186 : x40_4 < (x4_3.length : Int) := of_decide_eq_true as_; obtain ⟨ad186, e186, hx186_0⟩ := Kd.at_int (Kd.R_reads' HO_38.out).2.2 x40_4 p186 q186
                 cases e186
                 replace p186 := eq_true p186; replace q186 := eq_true q186
                 go_wp2
                 go_roundg k4
                 case measure => have := HJ1.out; have := HK2.out; have := HK3.out; have := HK4.out; omega
                 case rel => exact ⟨(x8_4), (wrap64 (x40_4 + 1)), (fs_), (fs_), H', ⟨by have := HJ1.out; have := HK2.out; have := HK3.out; have := HK4.out; omega⟩, ⟨kr_ HO_4.out⟩, ⟨kr_ HO_5.out⟩, ⟨kr_ HO_7.out⟩, ⟨kr_ HO_38.out⟩, ⟨bl_ HB.out⟩⟩
               ·rw [if_neg c20] at H
                have c20b0 : ((rd x4_3 x40_4) == 1) = false := beq_eq_false_iff_ne.mpr c20; have c20b1 : ((rd x4_3 x40_4) != 1) = true := bne_iff_ne.mpr c20; have H' := Aside0.mk H; clear H; have p186 : 0 ≤ (x40_4 : Int) := of_decide_eq_true as_; have q186 : x40_4 < (x4_3.length : Int) := of_decide_eq_true as_; obtain ⟨ad186, e186, hx186_0⟩ := Kd.at_int (Kd.R_reads' HO_38.out).2.2 x40_4 p186 q186
                cases e186
                replace p186 := eq_true p186; replace q186 := eq_true q186
                go_wp2
                go_roundg k4
                case measure => have := HJ1.out; have := HK2.out; have := HK3.out; have := HK4.out; omega
                case rel => exact ⟨(x8_4), (wrap64 (x40_4 + 1)), (fs_), (fs_), H', ⟨by have := HJ1.out; have := HK2.out; have := HK3.out; have := HK4.out; omega⟩, ⟨kr_ HO_4.out⟩, ⟨kr_ HO_5.out⟩, ⟨kr_ HO_7.out⟩, ⟨kr_ HO_38.out⟩, ⟨bl_ HB.out⟩⟩
              ·rw [if_neg c19] at H
               exact absurd H (by simp)
             ·rw [if_neg c18] at H
              exact absurd H (by simp)
            ·rw [if_neg c17] at H
             have c17b0 : decide (x40_4 < (x4_3.length : Int)) = false := decide_eq_false c17; clear c17
             by_cases c22 : x8_4 < 0
             ·rw [if_pos c22] at H
              have c22b0 : decide (x8_4 < 0) = true := decide_eq_true c22; clear c22
              simp only [Option.some.injEq, Prod.mk.injEq] at H
              obtain ⟨rfl, rfl⟩ := H
              go_wp2
              go_ret2
              exact ⟨_, by first | rfl | (simp [errW_none, errW_some] <;> rfl) | (simp [*, errW_none, errW_some] <;> rfl), by first | exact Kd.R_nil _ _ _ _ _ | exact Kd.N_nil _ _ _ _ _ | exact Kd.V_nil _ _ _ _ _ | exact Kd.Q_nil _ _ _ _ _ | exact Kd.S_nil _ _ _ _ _, bl_ HB.out⟩
             ·rw [if_neg c22] at H
              have c22b0 : decide (x8_4 < 0) = false := decide_eq_false c22; clear c22
              by_cases c23 : (x4_3.length : Int) = 0
              ·rw [if_pos c23] at H
               exact absurd H (by simp)
              ·rw [if_neg c23] at H
               have c23b0 : ((x4_3.length : Int) == 0) = false := beq_eq_false_iff_ne.mpr c23; have c23b1 : ((x4_3.length : Int) != 0) = true := bne_iff_ne.mpr c23; have c23b2 : ¬ (x4_3 = []) := fun h_ => c23 (by rw [h_]; rfl)
               obtain ⟨ji24, hji24⟩ : ∃ j_ : Int, (Int.tmod (wrap64 ((wrap64 (x8_4 + (x4_3.length : Int))) - 1)) (x4_3.length : Int)) = j_ := ⟨_, rfl⟩; replace H : (if 0 ≤ (ji24) then (if (ji24) < (x4_3.length : Int) then ((some (x4_3.set ((ji24) : Int).toNat (wrap64 ((rd x4_3 (ji24)) - 1)) : List Int)).bind fun y188 => (if 0 ≤ (Int.tmod (wrap64 (x8_4 + 1)) (x4_3.length : Int)) then (if (Int.tmod (wrap64 (x8_4 + 1)) (x4_3.length : Int)) < (x4_3.length : Int) then ((some (y188.set ((Int.tmod (wrap64 (x8_4 + 1)) (x4_3.length : Int)) : Int).toNat (wrap64 ((rd y188 (Int.tmod (wrap64 (x8_4 + 1)) (x4_3.length : Int))) - 1)) : List Int)).bind fun y190 => (if (rd y190 (ji24)) < 1 then (spec_poOf.j4 k4 y190 x5_3 x7_3 x8_4 ji24 (Int.tmod (wrap64 (x8_4 + 1)) (x4_3.length : Int)) true) else (spec_poOf.j4 k4 y190 x5_3 x7_3 x8_4 ji24 (Int.tmod (wrap64 (x8_4 + 1)) (x4_3.length : Int)) (decide ((rd y190 (Int.tmod (wrap64 (x8_4 + 1)) (x4_3.length : Int))) < 1))))) else (none)) else (none))) else (none)) else (none)) = some (r1, r2) := by first | (rw [hji24] at H; exact H) | (simp only [hji24] at H ⊢; exact H)
               by_cases c25 : 0 ≤ (ji24)
               ·rw [if_pos c25] at H
                have c25b0 : decide (0 ≤ (ji24)) = true := decide_eq_true c25; clear c25
                by_cases c26 : (ji24) < (x4_3.length : Int)
                ·rw [if_pos c26] at H
                 have c26b0 : decide ((ji24) < (x4_3.length : Int)) = true := decide_eq_true c26; clear c26; obtain ⟨y188, hy188⟩ : ∃ y_ : List Int, y_ = (x4_3.set ((ji24) : Int).toNat (wrap64 ((rd x4_3 (ji24)) - 1))) := ⟨_, rfl⟩; replace H : (if 0 ≤ (Int.tmod (wrap64 (x8_4 + 1)) (x4_3.length : Int)) then (if (Int.tmod (wrap64 (x8_4 + 1)) (x4_3.length : Int)) < (x4_3.length : Int) then ((some (y188.set ((Int.tmod (wrap64 (x8_4 + 1)) (x4_3.length : Int)) : Int).toNat (wrap64 ((rd y188 (Int.tmod (wrap64 (x8_4 + 1)) (x4_3.length : Int))) - 1)) : List Int)).bind fun y190 => (if (rd y190 (ji24)) < 1 then (spec_poOf.j4 k4 y190 x5_3 x7_3 x8_4 ji24 (Int.tmod (wrap64 (x8_4 + 1)) (x4_3.length : Int)) true) else (spec_poOf.j4 k4 y190 x5_3 x7_3 x8_4 ji24 (Int.tmod (wrap64 (x8_4 + 1)) (x4_3.length : Int)) (decide ((rd y190 (Int.tmod (wrap64 (x8_4 + 1)) (x4_3.length : Int))) < 1))))) else (none)) else (none)) = some (r1, r2) := rh_ hy188 H
                 have Ny188 := Aside0.mk hy188; clear hy188; obtain ⟨ji28, hji28⟩ : ∃ j_ : Int, (Int.tmod (wrap64 (x8_4 + 1)) (x4_3.length : Int)) = j_ := ⟨_, rfl⟩; replace H : (if 0 ≤ (ji28) then (if (ji28) < (x4_3.length : Int) then ((some (y188.set ((ji28) : Int).toNat (wrap64 ((rd y188 (ji28)) - 1)) : List Int)).bind fun y190 => (if (rd y190 (ji24)) < 1 then (spec_poOf.j4 k4 y190 x5_3 x7_3 x8_4 ji24 ji28 true) else (spec_poOf.j4 k4 y190 x5_3 x7_3 x8_4 ji24 ji28 (decide ((rd y190 (ji28)) < 1))))) else (none)) else (none)) = some (r1, r2) := by first | (rw [hji28] at H; exact H) | (simp only [hji28] at H ⊢; exact H)
                 by_cases c29 : 0 ≤ (ji28)
                 ·rw [if_pos c29] at H
                  have c29b0 : decide (0 ≤ (ji28)) = true := decide_eq_true c29; clear c29
                  by_cases c30 : (ji28) < (x4_3.length : Int)
                  ·rw [if_pos c30] at H
                   have c30b0 : decide ((ji28) < (x4_3.length : Int)) = true := decide_eq_true c30; clear c30; obtain ⟨y190, hy190⟩ : ∃ y_ : List Int, y_ = (y188.set ((ji28) : Int).toNat (wrap64 ((rd y188 (ji28)) - 1))) := ⟨_, rfl⟩; replace H : (if (rd y190 (ji24)) < 1 then (spec_poOf.j4 k4 y190 x5_3 x7_3 x8_4 ji24 ji28 true) else (spec_poOf.j4 k4 y190 x5_3 x7_3 x8_4 ji24 ji28 (decide ((rd y190 (ji28)) < 1)))) = some (r1, r2) := rh_ hy190 H
                   have Ny190 := Aside0.mk hy190; clear hy190; have HC32 := Aside0.mk H; clear H
                   try go_wp2
                   replace HO_4 := Aside0.mk (Kd.R_drew HO_4.out); replace HO_5 := Aside0.mk (Kd.R_drew HO_5.out); replace HO_7 := Aside0.mk (Kd.R_drew HO_7.out); replace HO_38 := Aside0.mk (Kd.R_drew HO_38.out); replace HB := Aside0.mk (below_drew1 HB.out); refine start_ (n := 15) (S := fun w' => True) (ds := []) #[false, false, false, false, false, false, false, false, false, false, false, false, false, false, false] (by kernel_rfl) rfl rfl trivial (fun hHeld => ?_); refine with_tabW spec_poOf.tab20 spec_poOf.bits20 (fun HT_ HW_ => ?_)
                   generalize wr.drew = w33 at HO_4 HO_5 HO_7 HO_38 HB hHeld ⊢
                   refine pa_ 0 (some 55) rfl rfl HT_ ?_; refine pa_ 1 (some 56) rfl rfl HT_ ?_; refine pa_ 2 (some 57) rfl rfl HT_ ?_; refine pa_ 3 (some 58) rfl rfl HT_ ?_; refine pa_ 4 (some 59) rfl rfl HT_ ?_; refine pa_ 5 (some 60) rfl rfl HT_ ?_; refine pa_ 6 (some 61) rfl rfl HT_ ?_; refine pa_ 7 (some 62) rfl rfl HT_ ?_; refine pa_ 8 (some 63) rfl rfl HT_ ?_; refine pa_ 9 (some 64) rfl rfl HT_ ?_; refine pa_ 10 (some 65) rfl rfl HT_ ?_; refine pa_ 11 (some 66) rfl rfl HT_ ?_; refine pa_ 12 (some 67) rfl rfl HT_ ?_; refine pa_ 13 (some 11) rfl rfl HT_ ?_; refine pa_ 14 (some 12) rfl rfl HT_ ?_; refine done_ (done_of HT_.out (by kernel_rfl)) ?_
                   have p187 : 0 ≤ ((ji24) : Int) := of_decide_eq_true as_; have q187 : (ji24) < (x4_3.length : Int) := of_decide_eq_true as_; obtain ⟨ad187, e187, hx187_0⟩ := Kd.at_int (Kd.R_reads' HO_4.out).2.2 (ji24) p187 q187
                   cases e187
                   replace p187 := eq_true p187; replace q187 := eq_true q187; have p27 : 0 ≤ ((ji24) : Int) := of_decide_eq_true as_; have q27 : ((ji24) : Int) < ((x4_3.length : Int) : Int) := of_decide_eq_true as_; obtain ⟨go27, co27, eo27, gb27, gl27, cl27, HG27⟩ := Kd.R_form HO_4.out (by omega)
                   (first | cases eo27 | (injection eo27 with ea_ en_ ec_; (first | subst ea_ | (injection ea_ with ea_; subst ea_)); subst ec_; clear en_))
                   have GB27 := Aside0.mk gb27; have GG27 := Aside0.mk HG27; clear gb27 gl27 HG27
                   (first | simp only [add_plain] at hx187_0 | skip)
                   obtain ⟨hx27_0, hf27_0⟩ := Kd.R_celln 0 HO_4.out ((ji24) : Int) p27 q27; replace p27 := eq_true p27; replace q27 := eq_true q27; obtain ⟨hy34_, hz34_⟩ := Kd.R_celln 0 HO_4.out ((ji24) : Int) (of_decide_eq_true as_) (of_decide_eq_true as_); have HP34 := Kd.R_putg HO_4.out ((ji24) : Int) (wrap64 ((rd x4_3 (ji24)) - 1))
                   go_upto_region 23 with (first | ((with_reducible refine gate_store (t := 3) (p := 73) rfl ?_); refine store_event (t := 3) (p := 73) (v := ?vo_w35) (w1 := (w33.setCell ⟨go27, ((ji24) : Int).toNat, none⟩ (.int .i64 (wrap64 ((rd x4_3 (ji24)) - 1))))) ?hg ?ho ?hn ?hr ?_; (case ho => rfl); (case hg => rfl); (case hn => rfl); (case hr => first | (go_simp; done) | (go_simp; rfl)); intro w35 hw; have hg : w33.grownBy w35 (some go27) := (by rw [hw]; exact HP34.2); have hp_ : Kd.R (Kd.int .i64) 3 w35 w.heap.size (fun k_ => some k_ ≠ (u5 : Value).ownBlock) (.slice (some ⟨go27, 0, none⟩) x4_3.length co16) y188 := (by rw [hw, Ny188.out]; exact HP34.1); clear HP34; replace HO_5 := Aside0.mk (Kd.R_after (v := (.slice (some ⟨go27, 0, none⟩) x4_3.length co16)) (v1 := (.slice (some ⟨go27, 0, none⟩) x4_3.length co16)) (ok := (fun k_ => some k_ ≠ (.slice (some ⟨go27, 0, none⟩) x4_3.length co16 : Value).ownBlock)) (by (with_reducible repeat (first | apply Kd.R_alloc | apply Kd.R_drewN | apply Kd.R_drew)); exact Kd.R_mono HO_5.out (fun _ hk => ⟨hk.2, hk.1⟩)) hg (.inl rfl)); replace HO_7 := Aside0.mk (Kd.R_over' (v := (.slice (some ⟨go27, 0, none⟩) x4_3.length co16)) (kr_ HO_7.out) (Kd.R_typed HO_4.out) (by decide) hg); replace HO_4 := Aside0.mk (hp_); replace HO_38 := Aside0.mk (True.intro); replace HB := Aside0.mk ((by rw [hw]; exact below_set (HB.out) GB27.out : Below w.heap.size w w35)); clear hg hw hp_; have p189 : 0 ≤ ((ji28) : Int) := of_decide_eq_true as_; have q189 : (ji28) < (y188.length : Int) := (by have h_ : ((ji28) : Int) < ((x4_3.length : Int) : Int) := of_decide_eq_true as_; first | (have e_ := (Kd.R_reads' HO_4.out).1; omega) | simpa only [Ny188.out, List.length_set] using h_); have ql189 : (((ji28) : Int) < ((x4_3.length : Int) : Int)) = True := eq_true (of_decide_eq_true as_); obtain ⟨ad189, e189, hx189_0⟩ := Kd.at_int (Kd.R_reads' HO_4.out).2.2 (ji28) p189 q189; obtain rfl : (⟨go27, 0, none⟩ : Addr) = ad189 := (by injection e189); (first | simp only [add_plain] at hx189_0 | simp only [add_at] at hx189_0 | simp only [Addr.add, Nat.zero_add] at hx189_0 | skip); replace p189 := eq_true p189; replace q189 := eq_true q189; have p31 : 0 ≤ ((ji28) : Int) := of_decide_eq_true as_; have q31 : ((ji28) : Int) < ((x4_3.length : Int) : Int) := of_decide_eq_true as_; obtain ⟨hx31_0, hf31_0⟩ := Kd.R_celln 0 HO_4.out ((ji28) : Int) p31 q31; replace p31 := eq_true p31; replace q31 := eq_true q31; obtain ⟨hy36_, hz36_⟩ := Kd.R_celln 0 HO_4.out ((ji28) : Int) (of_decide_eq_true as_) (of_decide_eq_true as_); have HP36 := Kd.R_putg HO_4.out ((ji28) : Int) (wrap64 ((rd y188 (ji28)) - 1))) | ((with_reducible refine gate_store (t := 3) (p := 79) rfl ?_); refine store_event (t := 3) (p := 79) (v := ?vo_w37) (w1 := (w35.setCell ⟨go27, ((ji28) : Int).toNat, none⟩ (.int .i64 (wrap64 ((rd y188 (ji28)) - 1))))) ?hg ?ho ?hn ?hr ?_; (case ho => rfl); (case hg => rfl); (case hn => rfl); (case hr => first | (go_simp; done) | (go_simp; rfl)); intro w37 hw; have hg : w35.grownBy w37 (some go27) := (by rw [hw]; exact HP36.2); have hp_ : Kd.R (Kd.int .i64) 3 w37 w.heap.size (fun k_ => some k_ ≠ (u5 : Value).ownBlock) (.slice (some ⟨go27, 0, none⟩) x4_3.length co16) y190 := (by rw [hw, Ny190.out]; exact HP36.1); clear HP36; replace HO_5 := Aside0.mk (Kd.R_after (v := (.slice (some ⟨go27, 0, none⟩) x4_3.length co16)) (v1 := (.slice (some ⟨go27, 0, none⟩) x4_3.length co16)) (ok := (fun k_ => some k_ ≠ (.slice (some ⟨go27, 0, none⟩) x4_3.length co16 : Value).ownBlock)) (kr_ HO_5.out) hg (.inl rfl)); replace HO_7 := Aside0.mk (Kd.R_over' (v := (.slice (some ⟨go27, 0, none⟩) x4_3.length co16)) (kr_ HO_7.out) (Kd.R_typed HO_4.out) (by decide) hg); replace HO_4 := Aside0.mk (hp_); replace HO_38 := Aside0.mk (True.intro); replace HB := Aside0.mk ((by rw [hw]; exact below_set (HB.out) GB27.out : Below w.heap.size w w37)); clear hg hw hp_))
                   (try simp only [Act.put, List.setIfInBounds_toArray, List.set_cons_zero, List.set_cons_succ])
                   go_cut [91] (fun v91 wc => ∃ (kq : Nat) (x91_31 : Bool), v91 = .bool x91_31 ∧ Aside0 (spec_poOf.j4 kq y190 x5_3 x7_3 x8_4 ji24 ji28 x91_31 = some (r1, r2)) ∧ Aside0 (kq ≤ k4) ∧ Aside0 (Kd.R (Kd.int .i64) 3 wc w.heap.size (fun k_ => some k_ ≠ (u5 : Value).ownBlock) (.slice (some ⟨go27, 0, none⟩) x4_3.length co16) y190) ∧ Aside0 (Kd.R (Kd.int .i64) 3 wc w.heap.size (fun k_ => some k_ ≠ ((.slice (some ⟨go27, 0, none⟩) x4_3.length co16) : Value).ownBlock) u5 x5_3) ∧ Aside0 (Kd.R k46 46 wc w.heap.size (fun _ => True) u7 x7_3) ∧ Aside0 (Below w.heap.size w wc))
                   case first =>
                    have H := HC32.out; clear HC32
                    by_cases c38 : (rd y190 (ji24)) < 1
                    ·rw [if_pos c38] at H
                     have c38b0 : decide ((rd y190 (ji24)) < 1) = true := decide_eq_true c38; clear c38
                     (first | rw [c38b0] | (simp only [i64_w, i32_w]; rw [c38b0]) | skip)
                     have H' := Aside0.mk H; clear H; have p191 : 0 ≤ ((ji24) : Int) := of_decide_eq_true as_; have q191 : (ji24) < (y190.length : Int) := (by have h_ : ((ji24) : Int) < ((x4_3.length : Int) : Int) := of_decide_eq_true as_; first | (have e_ := (Kd.R_reads' HO_4.out).1; omega) | simpa only [Ny188.out, Ny190.out, List.length_set] using h_)
                     have ql191 : (((ji24) : Int) < ((x4_3.length : Int) : Int)) = True := eq_true (of_decide_eq_true as_); obtain ⟨ad191, e191, hx191_0⟩ := Kd.at_int (Kd.R_reads' HO_4.out).2.2 (ji24) p191 q191; obtain rfl : (⟨go27, 0, none⟩ : Addr) = ad191 := (by injection e191)
                     (first | simp only [add_plain] at hx191_0 | simp only [add_at] at hx191_0 | simp only [Addr.add, Nat.zero_add] at hx191_0 | skip)
                     replace p191 := eq_true p191; replace q191 := eq_true q191
                     go_wp2
                     go_meet
                     case rel => exact ⟨_, (true), (fs_), H', ⟨by have := HJ1.out; have := HK2.out; have := HK3.out; have := HK4.out; first | omega | exact Nat.le_refl _⟩, ⟨kr_ HO_4.out⟩, ⟨by (with_reducible repeat (first | apply Kd.R_alloc | apply Kd.R_drewN | apply Kd.R_drew)); exact Kd.R_mono HO_5.out (fun _ hk => hk.2)⟩, ⟨kr_ HO_7.out⟩, ⟨bl_ HB.out⟩⟩
                    ·rw [if_neg c38] at H
                     have c38b0 : decide ((rd y190 (ji24)) < 1) = false := decide_eq_false c38; clear c38
                     (first | rw [c38b0] | (simp only [i64_w, i32_w]; rw [c38b0]) | skip)
                     have H' := Aside0.mk H; clear H; have p191 : 0 ≤ ((ji24) : Int) := of_decide_eq_true as_; have q191 : (ji24) < (y190.length : Int) := (by have h_ : ((ji24) : Int) < ((x4_3.length : Int) : Int) := of_decide_eq_true as_; first | (have e_ := (Kd.R_reads' HO_4.out).1; omega) | simpa only [Ny188.out, Ny190.out, List.length_set] using h_)
                     have ql191 : (((ji24) : Int) < ((x4_3.length : Int) : Int)) = True := eq_true (of_decide_eq_true as_); obtain ⟨ad191, e191, hx191_0⟩ := Kd.at_int (Kd.R_reads' HO_4.out).2.2 (ji24) p191 q191; obtain rfl : (⟨go27, 0, none⟩ : Addr) = ad191 := (by injection e191)
                     (first | simp only [add_plain] at hx191_0 | simp only [add_at] at hx191_0 | simp only [Addr.add, Nat.zero_add] at hx191_0 | skip)
                     replace p191 := eq_true p191; replace q191 := eq_true q191; have p192 : 0 ≤ ((ji28) : Int) := of_decide_eq_true as_; have q192 : (ji28) < (y190.length : Int) := (by have h_ : ((ji28) : Int) < ((x4_3.length : Int) : Int) := of_decide_eq_true as_; first | (have e_ := (Kd.R_reads' HO_4.out).1; omega) | simpa only [Ny188.out, Ny190.out, List.length_set] using h_)
                     have ql192 : (((ji28) : Int) < ((x4_3.length : Int) : Int)) = True := eq_true (of_decide_eq_true as_); obtain ⟨ad192, e192, hx192_0⟩ := Kd.at_int (Kd.R_reads' HO_4.out).2.2 (ji28) p192 q192; obtain rfl : (⟨go27, 0, none⟩ : Addr) = ad192 := (by injection e192)
                     (first | simp only [add_plain] at hx192_0 | simp only [add_at] at hx192_0 | simp only [Addr.add, Nat.zero_add] at hx192_0 | skip)
                     replace p192 := eq_true p192; replace q192 := eq_true q192
                     go_wp2
                     go_meet
                     case rel => exact ⟨_, (decide ((rd y190 (ji28)) < 1)), (by first | rfl | (simp; done) | (simp only [← hji28] <;> (first | rfl | simp)) | (simp [*]; done)), H', ⟨by have := HJ1.out; have := HK2.out; have := HK3.out; have := HK4.out; first | omega | exact Nat.le_refl _⟩, ⟨kr_ HO_4.out⟩, ⟨by (with_reducible repeat (first | apply Kd.R_alloc | apply Kd.R_drewN | apply Kd.R_drew)); exact Kd.R_mono HO_5.out (fun _ hk => hk.2)⟩, ⟨kr_ HO_7.out⟩, ⟨bl_ HB.out⟩⟩
                   case rest =>
                    clear HC32
                    try clear c1
                    try clear p1
                    try clear q1
                    try clear hx1
                    try clear c2
                    try clear p2
                    try clear q2
                    try clear hx2
                    try clear hf2
                    try clear c3
                    try clear p3
                    try clear q3
                    try clear hx3
                    try clear hf3
                    try clear c4
                    try clear c5
                    try clear c6
                    try clear p6
                    try clear c7
                    try clear c9
                    try clear c12
                    try clear c12b0
                    try clear c13
                    try clear c15
                    try clear c15b0
                    try clear c15b1
                    try clear c17
                    try clear c17b0
                    try clear c18
                    try clear c18b0
                    try clear p18
                    try clear q18
                    try clear hx18
                    try clear c19
                    try clear c19b0
                    try clear p19
                    try clear q19
                    try clear hx19
                    try clear c20
                    try clear c20b0
                    try clear c20b1
                    try clear c21
                    try clear c21b0
                    try clear c22
                    try clear c22b0
                    try clear c23
                    try clear c23b0
                    try clear c23b1
                    try clear c23b2
                    try clear c25
                    try clear c25b0
                    try clear c26
                    try clear c26b0
                    try clear p27
                    try clear q27
                    try clear hx27
                    try clear hf27
                    try clear c29
                    try clear c29b0
                    try clear c30
                    try clear c30b0
                    try clear p31
                    try clear q31
                    try clear hx31
                    try clear hf31
                    try clear c38
                    try clear c38b0
                    try clear hx186_0
                    try clear hx187_0
                    try clear hx189_0
                    try clear hx191_0
                    try clear hx192_0
                    try clear hx27_0
                    try clear hx31_0
                    try clear p186
                    try clear p187
                    try clear p189
                    try clear p191
                    try clear p192
                    try clear p2
                    try clear p27
                    try clear p31
                    try clear p6
                    try clear q186
                    try clear q187
                    try clear q189
                    try clear q191
                    try clear q192
                    try clear q27
                    try clear q31
                    obtain ⟨kq, x91_31, rfl, HA, HJ31, HO_4, HO_5, HO_7, HB⟩ := hcut; have hl4_31 := (Kd.R_reads' HO_4.out).1; rw [hl4_31] at HO_4
                    (try simp only [hl4_31])
                    (try simp only [hl4_31] at HO_5)
                    (try simp only [hl4_31] at HO_7)
                    cases kq with
                    | zero => exact absurd HA.out (by simp [spec_poOf.j4])
                    | succ kj31 =>
                     have H := HA.out; clear HA
                     simp only [spec_poOf.j4] at H
                     by_cases c39 : x91_31 = true
                     ·subst c39
                      rw [if_pos rfl] at H
                      simp only [Option.some.injEq, Prod.mk.injEq] at H
                      obtain ⟨rfl, rfl⟩ := H
                      go_wp2
                      go_ret2
                      exact ⟨_, by first | rfl | (simp [errW_none, errW_some] <;> rfl) | (simp only [← hji24, ← hji28]; first | rfl | (simp [errW_none, errW_some] <;> rfl)) | (simp [*, errW_none, errW_some] <;> rfl), by first | exact Kd.R_nil _ _ _ _ _ | exact Kd.N_nil _ _ _ _ _ | exact Kd.V_nil _ _ _ _ _ | exact Kd.Q_nil _ _ _ _ _ | exact Kd.S_nil _ _ _ _ _, bl_ HB.out⟩
                     ·replace c39 := Bool.eq_false_iff.mpr c39
                      subst c39; rw [if_neg (show ¬ (false = true) by decide)] at H
                      by_cases c40 : 0 ≤ ji24
                      ·rw [if_pos c40] at H
                       have c40b0 : decide (0 ≤ ji24) = true := decide_eq_true c40; clear c40
                       by_cases c41 : ji24 < (x5_3.length : Int)
                       ·rw [if_pos c41] at H
                        have c41b0 : decide (ji24 < (x5_3.length : Int)) = true := decide_eq_true c41; clear c41
                        by_cases c42 : 0 ≤ ji28
                        ·rw [if_pos c42] at H
                         have c42b0 : decide (0 ≤ ji28) = true := decide_eq_true c42; clear c42
                         by_cases c43 : ji28 < (x5_3.length : Int)
                         ·rw [if_pos c43] at H
                          have c43b0 : decide (ji28 < (x5_3.length : Int)) = true := decide_eq_true c43; clear c43; replace H := Option.bind_eq_some_iff.mp H; obtain ⟨t195, A440, H⟩ := H; have A44 := Aside0.mk A440; clear A440; replace H := Option.bind_eq_some_iff.mp H; obtain ⟨t198, A450, H⟩ := H; have A45 := Aside0.mk A450; clear A450
                          by_cases c46 : x7_3.length < 8796093022208
                          ·rw [if_pos c46] at H
                           have LMc46 := Aside0.mk c46; clear c46; obtain ⟨y199, hy199⟩ : ∃ y_ : List (S46), y_ = (x7_3 ++ [(⟨t195, t198⟩ : S46)]) := ⟨_, rfl⟩; replace H : (if 0 ≤ x8_4 then (if x8_4 ≤ (y190.length : Int) then ((spec_l1Own.f (y190.take (x8_4 : Int).toNat)).bind fun t206 => (if 0 ≤ (wrap64 (x8_4 + 1)) then (if (wrap64 (x8_4 + 1)) ≤ (y190.length : Int) then ((some (y190.drop ((wrap64 (x8_4 + 1)) : Int).toNat : List Int)).bind fun y209 => (if t206.length + y209.length < 17592186044416 then (if x8_4 ≤ (x5_3.length : Int) then ((spec_l1Own.f (x5_3.take (x8_4 : Int).toNat)).bind fun t220 => (if (wrap64 (x8_4 + 1)) ≤ (x5_3.length : Int) then ((some (x5_3.drop ((wrap64 (x8_4 + 1)) : Int).toNat : List Int)).bind fun y223 => (if t220.length + y223.length < 17592186044416 then (spec_poOf.l1 kj31 (t206 ++ y209) (t220 ++ y223) y199) else (none))) else (none))) else (none)) else (none))) else (none)) else (none))) else (none)) else (none)) = some (r1, r2) := rh_ hy199 H
                           have Ny199 := Aside0.mk hy199; clear hy199
                           by_cases c47 : 0 ≤ x8_4
                           ·rw [if_pos c47] at H
                            have c47b0 := eq_true c47; have c47b1 : decide (0 ≤ x8_4) = true := decide_eq_true c47; clear c47
                            by_cases c48 : x8_4 ≤ (y190.length : Int)
                            ·rw [if_pos c48] at H
                             have c48b0 := eq_true c48; have c48b1 : decide (x8_4 ≤ (y190.length : Int)) = true := decide_eq_true c48; clear c48; obtain ⟨y202, hy202⟩ : ∃ y_ : List Int, y_ = (y190.take (x8_4 : Int).toNat) := ⟨_, rfl⟩; replace H : ((spec_l1Own.f y202).bind fun t206 => (if 0 ≤ (wrap64 (x8_4 + 1)) then (if (wrap64 (x8_4 + 1)) ≤ (y190.length : Int) then ((some (y190.drop ((wrap64 (x8_4 + 1)) : Int).toNat : List Int)).bind fun y209 => (if t206.length + y209.length < 17592186044416 then (if x8_4 ≤ (x5_3.length : Int) then ((spec_l1Own.f (x5_3.take (x8_4 : Int).toNat)).bind fun t220 => (if (wrap64 (x8_4 + 1)) ≤ (x5_3.length : Int) then ((some (x5_3.drop ((wrap64 (x8_4 + 1)) : Int).toNat : List Int)).bind fun y223 => (if t220.length + y223.length < 17592186044416 then (spec_poOf.l1 kj31 (t206 ++ y209) (t220 ++ y223) y199) else (none))) else (none))) else (none)) else (none))) else (none)) else (none))) = some (r1, r2) := rh_ hy202 H
                             have Ny202 := Aside0.mk hy202; clear hy202; replace H := Option.bind_eq_some_iff.mp H; obtain ⟨t206, A490, H⟩ := H; have A49 := Aside0.mk A490; clear A490; obtain ⟨ji50, hji50⟩ : ∃ j_ : Int, (wrap64 (x8_4 + 1)) = j_ := ⟨_, rfl⟩; replace H : (if 0 ≤ (ji50) then (if (ji50) ≤ (y190.length : Int) then ((some (y190.drop ((ji50) : Int).toNat : List Int)).bind fun y209 => (if t206.length + y209.length < 17592186044416 then (if x8_4 ≤ (x5_3.length : Int) then ((spec_l1Own.f (x5_3.take (x8_4 : Int).toNat)).bind fun t220 => (if (ji50) ≤ (x5_3.length : Int) then ((some (x5_3.drop ((ji50) : Int).toNat : List Int)).bind fun y223 => (if t220.length + y223.length < 17592186044416 then (spec_poOf.l1 kj31 (t206 ++ y209) (t220 ++ y223) y199) else (none))) else (none))) else (none)) else (none))) else (none)) else (none)) = some (r1, r2) := by first | (rw [hji50] at H; exact H) | (simp only [hji50] at H ⊢; exact H)
                             (try rw [hji50] at A44)
                             (try rw [hji50] at A45)
                             (try rw [hji50] at A49)
                             have hji50w : (IntKind.i64.wrap (x8_4 + 1)) = ji50 := (i64_w _).trans hji50
                             by_cases c51 : 0 ≤ (ji50)
                             ·rw [if_pos c51] at H
                              have c51b0 := eq_true c51; have c51b1 : decide (0 ≤ (ji50)) = true := decide_eq_true c51; clear c51
                              by_cases c52 : (ji50) ≤ (y190.length : Int)
                              ·rw [if_pos c52] at H
                               have c52b0 := eq_true c52; have c52b1 : decide ((ji50) ≤ (y190.length : Int)) = true := decide_eq_true c52; clear c52; obtain ⟨y209, hy209⟩ : ∃ y_ : List Int, y_ = (y190.drop ((ji50) : Int).toNat) := ⟨_, rfl⟩; replace H : (if t206.length + y209.length < 17592186044416 then (if x8_4 ≤ (x5_3.length : Int) then ((spec_l1Own.f (x5_3.take (x8_4 : Int).toNat)).bind fun t220 => (if (ji50) ≤ (x5_3.length : Int) then ((some (x5_3.drop ((ji50) : Int).toNat : List Int)).bind fun y223 => (if t220.length + y223.length < 17592186044416 then (spec_poOf.l1 kj31 (t206 ++ y209) (t220 ++ y223) y199) else (none))) else (none))) else (none)) else (none)) = some (r1, r2) := rh_ hy209 H
                               have Ny209 := Aside0.mk hy209; clear hy209
                               by_cases c53 : t206.length + y209.length < 17592186044416
                               ·rw [if_pos c53] at H
                                have LMc53 := Aside0.mk c53; clear c53; obtain ⟨y213, hy213⟩ : ∃ y_ : List Int, y_ = (t206 ++ y209) := ⟨_, rfl⟩; replace H : (if x8_4 ≤ (x5_3.length : Int) then ((spec_l1Own.f (x5_3.take (x8_4 : Int).toNat)).bind fun t220 => (if (ji50) ≤ (x5_3.length : Int) then ((some (x5_3.drop ((ji50) : Int).toNat : List Int)).bind fun y223 => (if t220.length + y223.length < 17592186044416 then (spec_poOf.l1 kj31 y213 (t220 ++ y223) y199) else (none))) else (none))) else (none)) = some (r1, r2) := rh_ hy213 H
                                have Ny213 := Aside0.mk hy213; clear hy213; have c54b0 := eq_true (of_decide_eq_true as_ : 0 ≤ x8_4)
                                by_cases c55 : x8_4 ≤ (x5_3.length : Int)
                                ·rw [if_pos c55] at H
                                 have c55b0 := eq_true c55; have c55b1 : decide (x8_4 ≤ (x5_3.length : Int)) = true := decide_eq_true c55; clear c55; obtain ⟨y216, hy216⟩ : ∃ y_ : List Int, y_ = (x5_3.take (x8_4 : Int).toNat) := ⟨_, rfl⟩; replace H : ((spec_l1Own.f y216).bind fun t220 => (if (ji50) ≤ (x5_3.length : Int) then ((some (x5_3.drop ((ji50) : Int).toNat : List Int)).bind fun y223 => (if t220.length + y223.length < 17592186044416 then (spec_poOf.l1 kj31 y213 (t220 ++ y223) y199) else (none))) else (none))) = some (r1, r2) := rh_ hy216 H
                                 have Ny216 := Aside0.mk hy216; clear hy216; replace H := Option.bind_eq_some_iff.mp H; obtain ⟨t220, A560, H⟩ := H; have A56 := Aside0.mk A560; clear A560; have c57b0 := eq_true (of_decide_eq_true as_ : 0 ≤ (ji50))
                                 by_cases c58 : (ji50) ≤ (x5_3.length : Int)
                                 ·rw [if_pos c58] at H
                                  have c58b0 := eq_true c58; have c58b1 : decide ((ji50) ≤ (x5_3.length : Int)) = true := decide_eq_true c58; clear c58; obtain ⟨y223, hy223⟩ : ∃ y_ : List Int, y_ = (x5_3.drop ((ji50) : Int).toNat) := ⟨_, rfl⟩; replace H : (if t220.length + y223.length < 17592186044416 then (spec_poOf.l1 kj31 y213 (t220 ++ y223) y199) else (none)) = some (r1, r2) := rh_ hy223 H
                                  have Ny223 := Aside0.mk hy223; clear hy223
                                  by_cases c59 : t220.length + y223.length < 17592186044416
                                  ·rw [if_pos c59] at H
                                   have LMc59 := Aside0.mk c59; clear c59; obtain ⟨y227, hy227⟩ : ∃ y_ : List Int, y_ = (t220 ++ y223) := ⟨_, rfl⟩; replace H : (spec_poOf.l1 kj31 y213 y227 y199) = some (r1, r2) := rh_ hy227 H; have Ny227 := Aside0.mk hy227; clear hy227; have H' := Aside0.mk H; clear H
                                   try go_wp2
                                   replace HO_4 := Aside0.mk (Kd.R_drew HO_4.out); replace HO_5 := Aside0.mk (Kd.R_drew HO_5.out); replace HO_7 := Aside0.mk (Kd.R_drew HO_7.out); replace HB := Aside0.mk (below_drew1 HB.out); obtain ⟨Ao61, co61, eo61⟩ := Kd.R_slice HO_5.out
                                   (first | subst eo61 | (injection eo61 with f1_ f2_ f3_; have f4_ := f1_.symm; have f5_ := f3_.symm; clear f1_ f2_ f3_; subst f4_; subst f5_))
                                   have p193 : 0 ≤ (ji24 : Int) := of_decide_eq_true as_; have q193 : ji24 < (x5_3.length : Int) := of_decide_eq_true as_; obtain ⟨ad193, e193, hx193_0⟩ := Kd.at_int (Kd.R_reads' HO_5.out).2.2 ji24 p193 q193
                                   cases e193
                                   replace p193 := eq_true p193; replace q193 := eq_true q193; have p194 : 0 ≤ (ji28 : Int) := of_decide_eq_true as_; have q194 : ji28 < (x5_3.length : Int) := of_decide_eq_true as_; obtain ⟨ad194, e194, hx194_0⟩ := Kd.at_int (Kd.R_reads' HO_5.out).2.2 ji28 p194 q194; obtain rfl : ad193 = ad194 := (by injection e194)
                                   replace p194 := eq_true p194; replace q194 := eq_true q194; have p196 : 0 ≤ (ji24 : Int) := of_decide_eq_true as_; have q196 : ji24 < (x5_3.length : Int) := of_decide_eq_true as_; obtain ⟨ad196, e196, hx196_0⟩ := Kd.at_int (Kd.R_reads' HO_5.out).2.2 ji24 p196 q196; obtain rfl : ad193 = ad196 := (by injection e196)
                                   replace p196 := eq_true p196; replace q196 := eq_true q196; have p197 : 0 ≤ (ji28 : Int) := of_decide_eq_true as_; have q197 : ji28 < (x5_3.length : Int) := of_decide_eq_true as_; obtain ⟨ad197, e197, hx197_0⟩ := Kd.at_int (Kd.R_reads' HO_5.out).2.2 ji28 p197 q197; obtain rfl : ad193 = ad197 := (by injection e197)
                                   replace p197 := eq_true p197; replace q197 := eq_true q197; refine start_ (n := 23) (S := fun w' => w'.cell? (ad193.add (ji24).toNat) = some (.int .i64 (rd x5_3 ji24)) ∧ w'.cell? (ad193.add (ji28).toNat) = some (.int .i64 (rd x5_3 ji28)) ∧ w'.cell? (ad193.add (ji24).toNat) = some (.int .i64 (rd x5_3 ji24)) ∧ w'.cell? (ad193.add (ji28).toNat) = some (.int .i64 (rd x5_3 ji28))) (ds := [20, 21]) #[false, false, false, false, false, false, false, false, false, false, false, false, false, false, false, false, false, false, false, false, false, false, false] (by kernel_rfl) rfl rfl ⟨hx193_0, hx194_0, hx196_0, hx197_0⟩ (fun hHeld => ?_); refine with_tabW spec_poOf.tab25 spec_poOf.bits25 (fun HT_ HW_ => ?_)
                                   generalize wc.drew = w60 at HO_4 HO_5 HO_7 HB hx193_0 hx194_0 hx196_0 hx197_0 hHeld ⊢
                                   refine pa_ 0 (some 92) rfl rfl HT_ ?_; refine pa_ 1 (some 93) rfl rfl HT_ ?_; refine pa_ 2 (some 94) rfl rfl HT_ ?_; refine pa_ 3 (some 95) rfl rfl HT_ ?_; refine pa_ 5 (some 97) rfl rfl HT_ ?_; refine pa_ 6 (some 98) rfl rfl HT_ ?_; refine pa_ 7 (some 99) rfl rfl HT_ ?_; refine pa_ 10 (some 102) rfl rfl HT_ ?_; refine pa_ 11 (some 103) rfl rfl HT_ ?_; refine pa_ 12 (some 104) rfl rfl HT_ ?_; refine pa_ 14 (some 106) rfl rfl HT_ ?_; refine pa_ 15 (some 107) rfl rfl HT_ ?_; refine pa_ 16 (some 108) rfl rfl HT_ ?_; refine ta0_ 4 (some 96) rfl rfl HT_ HW_ hHeld ?_; refine ta0_ 8 (some 100) rfl rfl HT_ HW_ hHeld ?_; refine ta0_ 13 (some 105) rfl rfl HT_ HW_ hHeld ?_; refine ta0_ 17 (some 109) rfl rfl HT_ HW_ hHeld ?_; refine one_ (i := 9) (N := some 101) #[true, true, true, true, true, true, true, true, true, true, true, true, true, true, true, true, true, true, false, false, false, false, false] rfl rfl (one_of HT_.out (by kernel_rfl)) (by decide) (fun K hK => ?_)
                                   refine goes_ Tryz.func83 (by kernel_rfl) rfl #[.int .i64 (rd x5_3 ji24), .int .i64 (rd x5_3 ji28)] (by rfl) rfl rfl (by (try simp only [List.map_toArray, List.map_cons, List.map_nil]); first | done | (simp only [hji24, hji28]; rfl) | rfl | (simp only [List.length_drop, List.length_take]; rfl)) ?_
                                   with_reducible refine (spec_l1Least.calls (rd x5_3 ji24) (rd x5_3 ji28) t195 _ A44.out).mono ?_
                                   rintro e w' ⟨rfl, ⟨nd, rfl⟩⟩
                                   refine ⟨_, rfl, ?_⟩; refine hK.out _ _ ⟨hHeld.1, hHeld.2.1, hHeld.2.2.1, hHeld.2.2.2⟩ (fun hHeld => ?_)
                                   clear hK K; refine na_ (some 101) ?_; refine one_ (i := 18) (N := some 110) #[true, true, true, true, true, true, true, true, true, true, true, true, true, true, true, true, true, true, true, false, false, false, false] rfl rfl (one_of HT_.out (by kernel_rfl)) (by decide) (fun K hK => ?_)
                                   refine goes_ Tryz.func84 (by kernel_rfl) rfl #[.int .i64 (rd x5_3 ji24), .int .i64 (rd x5_3 ji28)] (by rfl) rfl rfl (by (try simp only [List.map_toArray, List.map_cons, List.map_nil]); first | done | (simp only [hji24, hji28]; rfl) | rfl | (simp only [List.length_drop, List.length_take]; rfl)) ?_
                                   with_reducible refine (spec_l1Most.calls (rd x5_3 ji24) (rd x5_3 ji28) t198 _ A45.out).mono ?_
                                   rintro e w' ⟨rfl, ⟨nd, rfl⟩⟩
                                   refine ⟨_, rfl, ?_⟩; refine hK.out _ _ ⟨hHeld.1, hHeld.2.1, hHeld.2.2.1, hHeld.2.2.2⟩ (fun hHeld => ?_)
                                   clear hK K; refine na_ (some 110) ?_; refine pa_ 19 (some 111) rfl rfl HT_ ?_; refine last_ (i := 20) (N := some 112) #[true, true, true, true, true, true, true, true, true, true, true, true, true, true, true, true, true, true, true, true, true, false, false] rfl rfl (one_of HT_.out (by kernel_rfl)) (by decide) (fun K hK => ?_)
                                   refine value_ (w1 := ?_) (v := ?_) (by rfl) rfl ?_ ?_
                                   rotate_left 2
                                   ·go_simp
                                    constructor
                                    ·rfl
                                    ·rfl
                                   refine hK.out _ _ ?_; clear hK K; refine na_ (some 112) ?_; refine last_ (i := 21) (N := some 113) #[true, true, true, true, true, true, true, true, true, true, true, true, true, true, true, true, true, true, true, true, true, true, false] rfl rfl (one_of HT_.out (by kernel_rfl)) (by decide) (fun K hK => ?_)
                                   refine Kd.R_append_step k46 (w0 := w) w.heap.size (by rfl) (.tmp 92) (.tmp 112) 24 46 (.agg #[(.int .i64 0), (.int .i64 0)]) 16 rfl Tryz.underlying24 info46 rfl (by decide) (by omega) u7 x7_3 (⟨t195, t198⟩ : S46) [.int .i64 t195, .int .i64 t198] (fun _ => True) (fun _ => False) rfl rfl ?aP (fun _ hk => hk.elim) ?aF ?aO ?aB ?aS ?aL ?_
                                   (case aP => exact k46_mkM _ _ _ (⟨t195, t198⟩ : S46))
                                   (case aB => exact (bl_ HB.out))
                                   (case aF => exact (fun _ _ => trivial))
                                   (case aO => exact (kr_ HO_7.out))
                                   (case aS => exact (below_size (bl_ HB.out)))
                                   (case aL => have := LMc46.out; omega)
                                   intro v200 w62 ho hb hg hat; rw [← Ny199.out] at ho
                                   have n0_ := Aside0.mk (Kd.R_over' (kr_ HO_4.out) (Kd.R_typed (kr_ HO_7.out)) (by decide) hg)
                                   have n1_ := Aside0.mk (Kd.R_over' (kr_ HO_5.out) (Kd.R_typed (kr_ HO_7.out)) (by decide) hg)
                                   have n2_ := Aside0.mk (hb); have n3_ := Aside0.mk (ho); clear HO_4; clear HO_5; clear HB; clear HO_7; have HO_4 := n0_; have HO_5 := n1_; have HB := n2_; have HO201 := n3_; clear n0_ n1_ n2_ n3_; clear ho hb hg hat; refine hK.out _ _ ?_; clear hK K; refine na_ (some 113) ?_; refine pa_ 22 (some 7) rfl rfl HT_ ?_; refine done_ (done_of HT_.out (by kernel_rfl)) ?_
                                   try go_wp2
                                   replace HO_4 := Aside0.mk (Kd.R_drew HO_4.out); replace HO_5 := Aside0.mk (Kd.R_drew HO_5.out); replace HO201 := Aside0.mk (Kd.R_drew HO201.out); replace HB := Aside0.mk (below_drew1 HB.out); have q64 : (x8_4 : Int) ≤ ((y190.length : Int) : Int) := of_decide_eq_true as_; obtain ⟨i064, hi064, _, hsz64, _⟩ := info_parts info3; have hroom64 : y190.length ≤ co16 := (Kd.R_reads' HO_4.out).2.1; have hC64 : Kd.C (Kd.int .i64) _ (some ⟨go27, 0, none⟩) y190.length y190 := (Kd.R_reads' HO_4.out).2.2; have hcut64 := cut_to (P := Tryz.prog) 27 3 .i64 Tryz.underlying27 hi064 (some ⟨go27, 0, none⟩) y190.length co16 x8_4 (of_decide_eq_true as_) q64 hroom64; have hr64 := Kd.C_take (m := (x8_4 : Int).toNat) hC64 (by omega)
                                   have hy64 : y202.length = (x8_4 : Int).toNat := (by rw [Ny202.out, List.length_take]; omega)
                                   rw [← Ny202.out] at hr64
                                   rw [← hy64] at hcut64
                                   have HR205 := Aside0.mk hr64; have HC205 := Aside0.mk (show y202.length ≤ co16 from by omega)
                                   clear hr64 hC64 hroom64 hi064 hsz64; have KY64 := Aside0.mk hy64; clear hy64; have KL64 := Aside0.mk (show (x8_4 : Int).toNat ≤ y190.length from by omega)
                                   replace q64 := eq_true q64; have q65 : ((ji50) : Int) ≤ ((y190.length : Int) : Int) := of_decide_eq_true as_; obtain ⟨i065, hi065, _, hsz65, _⟩ := info_parts info3; have hroom65 : y190.length ≤ co16 := (Kd.R_reads' HO_4.out).2.1; have hC65 : Kd.C (Kd.int .i64) _ (some ⟨go27, 0, none⟩) y190.length y190 := (Kd.R_reads' HO_4.out).2.2; have q065 : (0 : Int) ≤ ((ji50) : Int) := of_decide_eq_true as_; have hcut65 := cut_from (P := Tryz.prog) 27 3 .i64 Tryz.underlying27 hi065 1 hsz65 (some ⟨go27, 0, none⟩) y190.length co16 (ji50) q065 q65; have hr65 := Kd.C_drop (m := ((ji50) : Int).toNat) (c := co16) hC65 (by omega) hroom65
                                   obtain ⟨A65, hA65⟩ : ∃ A1, A1 = (if co16 = ((ji50) : Int).toNat then (some ⟨go27, 0, none⟩) else ((some ⟨go27, 0, none⟩) : Option Addr).map (·.add (((ji50) : Int).toNat * 1))) := ⟨_, rfl⟩
                                   obtain ⟨c65, hc65⟩ : ∃ c1, c1 = co16 - ((ji50) : Int).toNat := ⟨_, rfl⟩; have hy65 : y209.length = y190.length - ((ji50) : Int).toNat := (by rw [Ny209.out, List.length_drop] <;> omega)
                                   rw [show (y190).drop ((ji50) : Int).toNat = y209 from Ny209.out.symm] at hr65
                                   replace hr65 : Kd.C (Kd.int .i64) _ A65 y209.length y209 := (by rw [hA65]; exact hr65)
                                   rw [← hy65, ← hA65, ← hc65] at hcut65
                                   have HR212 := Aside0.mk hr65; have HC212 := Aside0.mk (show y209.length ≤ c65 from by rw [hy65, hc65]; exact Nat.sub_le_sub_right hroom65 _)
                                   clear hr65 hC65 hroom65 hi065 hsz65 hc65; have KY65 := Aside0.mk hy65; have KA65 := Aside0.mk hA65; clear hy65 hA65; have KL65 := Aside0.mk (show ((ji50) : Int).toNat ≤ y190.length from by omega)
                                   replace q65 := eq_true q65; refine start_ (n := 10) (S := fun w' => True) (ds := []) #[false, false, false, false, false, false, false, false, false, false] (by kernel_rfl) rfl rfl trivial (fun hHeld => ?_); refine with_tabW spec_poOf.tab26 spec_poOf.bits26 (fun HT_ HW_ => ?_)
                                   generalize w62.drew = w63 at HO_4 HO_5 HO201 HB HR205 HR212 hHeld ⊢
                                   refine pa_ 0 (some 114) rfl rfl HT_ ?_; refine pa_ 1 (some 115) rfl rfl HT_ ?_; refine pa_ 2 (some 116) rfl rfl HT_ ?_; refine pa_ 4 (some 118) rfl rfl HT_ ?_; refine pa_ 5 (some 119) rfl rfl HT_ ?_; refine pa_ 6 (some 120) rfl rfl HT_ ?_; refine pa_ 7 (some 121) rfl rfl HT_ ?_; refine one_ (i := 3) (N := some 117) #[true, true, true, true, true, true, true, true, false, false] rfl rfl (one_of HT_.out (by kernel_rfl)) (by decide) (fun K hK => ?_)
                                   refine goes_ Tryz.func90 (by kernel_rfl) rfl #[.slice (some ⟨go27, 0, none⟩) y202.length co16] (by rfl) rfl rfl (by (try simp only [List.map_toArray, List.map_cons, List.map_nil]); first | done | rfl | (simp only [List.length_drop, List.length_take]; rfl)) ?_
                                   with_reducible refine (spec_l1Own.calls _ _ y202 t206 _ ?side1 ?side2 A49.out).mono ?_
                                   (case side1 => exact (cc_ HR205.out))
                                   (case side2 => exact HC205.out)
                                   rintro e w66 ⟨v207, rfl, ho0, hb⟩
                                   refine ⟨_, rfl, ?_⟩; have n0_ := Aside0.mk (Kd.R_elder' (kr_ HO_4.out) (Kd.R_base ho0) hb); have n1_ := Aside0.mk (Kd.R_elder' (kr_ HO_5.out) (Kd.R_base ho0) hb); have n2_ := Aside0.mk (Kd.R_below (kr_ HO201.out) hb); have n3_ := Aside0.mk (Kd.R_lower (Kd.R_new' (Kd.R_new' ho0 (Kd.R_lt (kr_ HO_4.out))) (Kd.R_lt (kr_ HO_5.out))) (below_size (bl_ HB.out))); have n4_ := Aside0.mk (Kd.C_below (cc_ HR205.out) hb)
                                   have n5_ := Aside0.mk (Kd.C_below (cc_ HR212.out) hb)
                                   have n6_ := Aside0.mk (below_step (bl_ HB.out) hb); clear HO_4; clear HO_5; clear HO201; clear HR205; clear HR212; clear HB; have HO_4 := n0_; have HO_5 := n1_; have HO201 := n2_; have HO208 := n3_; have HR205 := n4_; have HR212 := n5_; have HB := n6_; clear n0_ n1_ n2_ n3_ n4_ n5_ n6_
                                   (try clear hb)
                                   (try clear hb2)
                                   (try clear hk)
                                   (try clear hi)
                                   (try clear ho0)
                                   refine hK.out _ _ trivial (fun hHeld => ?_)
                                   clear hK K; refine na_ (some 117) ?_; refine one_ (i := 8) (N := some 122) #[true, true, true, true, true, true, true, true, true, false] rfl rfl (one_of HT_.out (by kernel_rfl)) (by decide) (fun K hK => ?_)
                                   refine Kd.R_append_rows_step (Kd.int .i64) (w0 := w) w.heap.size (by rfl) (.tmp 117) (.tmp 121) 27 3 (.int .i64 0) 8 rfl Tryz.underlying27 info3 rfl (by decide) (by omega) v207 t206 y209 _ _ _ (fun k_ => some k_ ≠ (.slice (some ⟨go27, 0, none⟩) y190.length co16 : Value).ownBlock ∧ some k_ ≠ (.slice (some ad193) x5_3.length co61 : Value).ownBlock) (fun _ => False) rfl rfl ?aO ?aR (fun _ _ h => h) (fun _ h => h.elim) ?aF ?aB ?aS ?aL ?_
                                   (case aR => exact (cc_ HR212.out))
                                   (case aB => exact (bl_ HB.out))
                                   (case aF => exact (fun k_ hk => ⟨Kd.fresh' (Kd.R_lt (kr_ HO_4.out)) k_ hk, Kd.fresh' (Kd.R_lt (kr_ HO_5.out)) k_ hk⟩))
                                   (case aO => exact (by (with_reducible repeat (first | apply Kd.R_alloc | apply Kd.R_drewN | apply Kd.R_drew)); exact Kd.R_mono HO208.out (fun _ hk => ⟨hk.1.2, hk.2⟩)))
                                   (case aS => exact (below_size (bl_ HB.out)))
                                   (case aL => have := LMc53.out; omega)
                                   intro v214 w67 ho hb hg hat; rw [← Ny213.out] at ho
                                   have n0_ := Aside0.mk (Kd.R_after (ok := (fun k_ => some k_ ≠ (.slice (some ad193) x5_3.length co61 : Value).ownBlock)) (kr_ HO_4.out) hg hat)
                                   have n1_ := Aside0.mk (Kd.R_after (ok := (fun k_ => some k_ ≠ (.slice (some ⟨go27, 0, none⟩) y190.length co16 : Value).ownBlock)) (kr_ HO_5.out) hg hat)
                                   have n2_ := Aside0.mk (Kd.R_over' (kr_ HO201.out) (Kd.R_typed (kr_ HO208.out)) (by decide) hg)
                                   have n3_ := Aside0.mk (hb); have n4_ := Aside0.mk ((show Kd.C (Kd.int .i64) w67 (some ⟨go27, 0, none⟩) y202.length y202 from by rw [Ny202.out]; exact Kd.C_take (m := (x8_4 : Int).toNat) ((Kd.R_reads' (Kd.R_after (ok := (fun k_ => some k_ ≠ (.slice (some ad193) x5_3.length co61 : Value).ownBlock)) (kr_ HO_4.out) hg hat)).2.2) KL64.out))
                                   have n5_ := Aside0.mk ((show Kd.C (Kd.int .i64) w67 A65 y209.length y209 from by rw [Ny209.out, KA65.out]; exact Kd.C_drop (m := ((ji50) : Int).toNat) (c := co16) ((Kd.R_reads' (Kd.R_after (ok := (fun k_ => some k_ ≠ (.slice (some ad193) x5_3.length co61 : Value).ownBlock)) (kr_ HO_4.out) hg hat)).2.2) KL65.out ((Kd.R_reads' (Kd.R_after (ok := (fun k_ => some k_ ≠ (.slice (some ad193) x5_3.length co61 : Value).ownBlock)) (kr_ HO_4.out) hg hat)).2.1)))
                                   have n6_ := Aside0.mk (ho); clear HO_4; clear HO_5; clear HO201; clear HB; clear HR205; clear HR212; clear HO208; have HO_4 := n0_; have HO_5 := n1_; have HO201 := n2_; have HB := n3_; have HR205 := n4_; have HR212 := n5_; have HO215 := n6_; clear n0_ n1_ n2_ n3_ n4_ n5_ n6_; clear ho hb hg hat; refine hK.out _ _ trivial (fun hHeld => ?_)
                                   clear hK K; refine na_ (some 122) ?_; refine pa_ 9 (some 4) rfl rfl HT_ ?_; refine done_ (done_of HT_.out (by kernel_rfl)) ?_
                                   try go_wp2
                                   replace HO_4 := Aside0.mk (Kd.R_drew HO_4.out); replace HO_5 := Aside0.mk (Kd.R_drew HO_5.out); replace HO201 := Aside0.mk (Kd.R_drew HO201.out); replace HO215 := Aside0.mk (Kd.R_drew HO215.out); replace HR205 := Aside0.mk (Kd.C_drew HR205.out); replace HR212 := Aside0.mk (Kd.C_drew HR212.out); replace HB := Aside0.mk (below_drew1 HB.out); have q69 : (x8_4 : Int) ≤ ((x5_3.length : Int) : Int) := of_decide_eq_true as_; obtain ⟨i069, hi069, _, hsz69, _⟩ := info_parts info3; have hroom69 : x5_3.length ≤ co61 := (Kd.R_reads' HO_5.out).2.1; have hC69 : Kd.C (Kd.int .i64) _ (some ad193) x5_3.length x5_3 := (Kd.R_reads' HO_5.out).2.2; have hcut69 := cut_to (P := Tryz.prog) 27 3 .i64 Tryz.underlying27 hi069 (some ad193) x5_3.length co61 x8_4 (of_decide_eq_true as_) q69 hroom69; have hr69 := Kd.C_take (m := (x8_4 : Int).toNat) hC69 (by omega)
                                   have hy69 : y216.length = (x8_4 : Int).toNat := (by rw [Ny216.out, List.length_take]; omega)
                                   rw [← Ny216.out] at hr69
                                   rw [← hy69] at hcut69
                                   have HR219 := Aside0.mk hr69; have HC219 := Aside0.mk (show y216.length ≤ co61 from by omega)
                                   clear hr69 hC69 hroom69 hi069 hsz69; have KY69 := Aside0.mk hy69; clear hy69; have KL69 := Aside0.mk (show (x8_4 : Int).toNat ≤ x5_3.length from by omega)
                                   replace q69 := eq_true q69; have q70 : ((ji50) : Int) ≤ ((x5_3.length : Int) : Int) := of_decide_eq_true as_; obtain ⟨i070, hi070, _, hsz70, _⟩ := info_parts info3; have hroom70 : x5_3.length ≤ co61 := (Kd.R_reads' HO_5.out).2.1; have hC70 : Kd.C (Kd.int .i64) _ (some ad193) x5_3.length x5_3 := (Kd.R_reads' HO_5.out).2.2; have q070 : (0 : Int) ≤ ((ji50) : Int) := of_decide_eq_true as_; have hcut70 := cut_from (P := Tryz.prog) 27 3 .i64 Tryz.underlying27 hi070 1 hsz70 (some ad193) x5_3.length co61 (ji50) q070 q70; have hr70 := Kd.C_drop (m := ((ji50) : Int).toNat) (c := co61) hC70 (by omega) hroom70
                                   obtain ⟨A70, hA70⟩ : ∃ A1, A1 = (if co61 = ((ji50) : Int).toNat then (some ad193) else ((some ad193) : Option Addr).map (·.add (((ji50) : Int).toNat * 1))) := ⟨_, rfl⟩
                                   obtain ⟨c70, hc70⟩ : ∃ c1, c1 = co61 - ((ji50) : Int).toNat := ⟨_, rfl⟩; have hy70 : y223.length = x5_3.length - ((ji50) : Int).toNat := (by rw [Ny223.out, List.length_drop] <;> omega)
                                   rw [show (x5_3).drop ((ji50) : Int).toNat = y223 from Ny223.out.symm] at hr70
                                   replace hr70 : Kd.C (Kd.int .i64) _ A70 y223.length y223 := (by rw [hA70]; exact hr70)
                                   rw [← hy70, ← hA70, ← hc70] at hcut70
                                   have HR226 := Aside0.mk hr70; have HC226 := Aside0.mk (show y223.length ≤ c70 from by rw [hy70, hc70]; exact Nat.sub_le_sub_right hroom70 _)
                                   clear hr70 hC70 hroom70 hi070 hsz70 hc70; have KY70 := Aside0.mk hy70; have KA70 := Aside0.mk hA70; clear hy70 hA70; have KL70 := Aside0.mk (show ((ji50) : Int).toNat ≤ x5_3.length from by omega)
                                   replace q70 := eq_true q70; refine start_ (n := 10) (S := fun w' => True) (ds := []) #[false, false, false, false, false, false, false, false, false, false] (by kernel_rfl) rfl rfl trivial (fun hHeld => ?_); refine with_tabW spec_poOf.tab27 spec_poOf.bits27 (fun HT_ HW_ => ?_)
                                   generalize w67.drew = w68 at HO_4 HO_5 HO201 HO215 HR205 HR212 HB HR219 HR226 hHeld ⊢
                                   refine pa_ 0 (some 123) rfl rfl HT_ ?_; refine pa_ 1 (some 124) rfl rfl HT_ ?_; refine pa_ 2 (some 125) rfl rfl HT_ ?_; refine pa_ 4 (some 127) rfl rfl HT_ ?_; refine pa_ 5 (some 128) rfl rfl HT_ ?_; refine pa_ 6 (some 129) rfl rfl HT_ ?_; refine pa_ 7 (some 130) rfl rfl HT_ ?_; refine one_ (i := 3) (N := some 126) #[true, true, true, true, true, true, true, true, false, false] rfl rfl (one_of HT_.out (by kernel_rfl)) (by decide) (fun K hK => ?_)
                                   refine goes_ Tryz.func90 (by kernel_rfl) rfl #[.slice (some ad193) y216.length co61] (by rfl) rfl rfl (by (try simp only [List.map_toArray, List.map_cons, List.map_nil]); first | done | rfl | (simp only [List.length_drop, List.length_take]; rfl)) ?_
                                   with_reducible refine (spec_l1Own.calls _ _ y216 t220 _ ?side1 ?side2 A56.out).mono ?_
                                   (case side1 => exact (cc_ HR219.out))
                                   (case side2 => exact HC219.out)
                                   rintro e w71 ⟨v221, rfl, ho0, hb⟩
                                   refine ⟨_, rfl, ?_⟩; have n0_ := Aside0.mk (Kd.R_elder' (kr_ HO_4.out) (Kd.R_base ho0) hb); have n1_ := Aside0.mk (Kd.R_elder' (kr_ HO_5.out) (Kd.R_base ho0) hb); have n2_ := Aside0.mk (Kd.R_below (kr_ HO201.out) hb); have n3_ := Aside0.mk (Kd.R_elder' (kr_ HO215.out) (Kd.R_base ho0) hb); have n4_ := Aside0.mk (Kd.R_lower (Kd.R_new' (Kd.R_new' (Kd.R_new' ho0 (Kd.R_lt (kr_ HO_4.out))) (Kd.R_lt (kr_ HO_5.out))) (Kd.R_lt (kr_ HO215.out))) (below_size (bl_ HB.out))); have n5_ := Aside0.mk (Kd.C_below (cc_ HR205.out) hb)
                                   have n6_ := Aside0.mk (Kd.C_below (cc_ HR212.out) hb)
                                   have n7_ := Aside0.mk (Kd.C_below (cc_ HR219.out) hb)
                                   have n8_ := Aside0.mk (Kd.C_below (cc_ HR226.out) hb)
                                   have n9_ := Aside0.mk (below_step (bl_ HB.out) hb); clear HO_4; clear HO_5; clear HO201; clear HO215; clear HR205; clear HR212; clear HR219; clear HR226; clear HB; have HO_4 := n0_; have HO_5 := n1_; have HO201 := n2_; have HO215 := n3_; have HO222 := n4_; have HR205 := n5_; have HR212 := n6_; have HR219 := n7_; have HR226 := n8_; have HB := n9_; clear n0_ n1_ n2_ n3_ n4_ n5_ n6_ n7_ n8_ n9_
                                   (try clear hb)
                                   (try clear hb2)
                                   (try clear hk)
                                   (try clear hi)
                                   (try clear ho0)
                                   refine hK.out _ _ trivial (fun hHeld => ?_)
                                   clear hK K; refine na_ (some 126) ?_; refine one_ (i := 8) (N := some 131) #[true, true, true, true, true, true, true, true, true, false] rfl rfl (one_of HT_.out (by kernel_rfl)) (by decide) (fun K hK => ?_)
                                   refine Kd.R_append_rows_step (Kd.int .i64) (w0 := w) w.heap.size (by rfl) (.tmp 126) (.tmp 130) 27 3 (.int .i64 0) 8 rfl Tryz.underlying27 info3 rfl (by decide) (by omega) v221 t220 y223 _ _ _ (fun k_ => some k_ ≠ (.slice (some ⟨go27, 0, none⟩) y190.length co16 : Value).ownBlock ∧ some k_ ≠ (.slice (some ad193) x5_3.length co61 : Value).ownBlock ∧ some k_ ≠ (v214 : Value).ownBlock) (fun _ => False) rfl rfl ?aO ?aR (fun _ _ h => h) (fun _ h => h.elim) ?aF ?aB ?aS ?aL ?_
                                   (case aR => exact (cc_ HR226.out))
                                   (case aB => exact (bl_ HB.out))
                                   (case aF => exact (fun k_ hk => ⟨Kd.fresh' (Kd.R_lt (kr_ HO_4.out)) k_ hk, Kd.fresh' (Kd.R_lt (kr_ HO_5.out)) k_ hk, Kd.fresh' (Kd.R_lt (kr_ HO215.out)) k_ hk⟩))
                                   (case aO => exact (by (with_reducible repeat (first | apply Kd.R_alloc | apply Kd.R_drewN | apply Kd.R_drew)); exact Kd.R_mono HO222.out (fun _ hk => ⟨hk.1.1.2, ⟨hk.1.2, hk.2⟩⟩)))
                                   (case aS => exact (below_size (bl_ HB.out)))
                                   (case aL => have := LMc59.out; omega)
                                   intro v228 w72 ho hb hg hat; rw [← Ny227.out] at ho
                                   have n0_ := Aside0.mk (Kd.R_after (ok := (fun k_ => some k_ ≠ (.slice (some ad193) x5_3.length co61 : Value).ownBlock ∧ some k_ ≠ (v214 : Value).ownBlock)) (kr_ HO_4.out) hg hat)
                                   have n1_ := Aside0.mk (Kd.R_after (ok := (fun k_ => some k_ ≠ (.slice (some ⟨go27, 0, none⟩) y190.length co16 : Value).ownBlock ∧ some k_ ≠ (v214 : Value).ownBlock)) (kr_ HO_5.out) hg hat)
                                   have n2_ := Aside0.mk (Kd.R_over' (kr_ HO201.out) (Kd.R_typed (kr_ HO222.out)) (by decide) hg)
                                   have n3_ := Aside0.mk (Kd.R_after (ok := (fun k_ => some k_ ≠ (.slice (some ⟨go27, 0, none⟩) y190.length co16 : Value).ownBlock ∧ some k_ ≠ (.slice (some ad193) x5_3.length co61 : Value).ownBlock)) (kr_ HO215.out) hg hat)
                                   have n4_ := Aside0.mk (hb); have n5_ := Aside0.mk ((show Kd.C (Kd.int .i64) w72 (some ⟨go27, 0, none⟩) y202.length y202 from by rw [Ny202.out]; exact Kd.C_take (m := (x8_4 : Int).toNat) ((Kd.R_reads' (Kd.R_after (ok := (fun k_ => some k_ ≠ (.slice (some ad193) x5_3.length co61 : Value).ownBlock ∧ some k_ ≠ (v214 : Value).ownBlock)) (kr_ HO_4.out) hg hat)).2.2) KL64.out))
                                   have n6_ := Aside0.mk ((show Kd.C (Kd.int .i64) w72 A65 y209.length y209 from by rw [Ny209.out, KA65.out]; exact Kd.C_drop (m := ((ji50) : Int).toNat) (c := co16) ((Kd.R_reads' (Kd.R_after (ok := (fun k_ => some k_ ≠ (.slice (some ad193) x5_3.length co61 : Value).ownBlock ∧ some k_ ≠ (v214 : Value).ownBlock)) (kr_ HO_4.out) hg hat)).2.2) KL65.out ((Kd.R_reads' (Kd.R_after (ok := (fun k_ => some k_ ≠ (.slice (some ad193) x5_3.length co61 : Value).ownBlock ∧ some k_ ≠ (v214 : Value).ownBlock)) (kr_ HO_4.out) hg hat)).2.1)))
                                   have n7_ := Aside0.mk ((show Kd.C (Kd.int .i64) w72 (some ad193) y216.length y216 from by rw [Ny216.out]; exact Kd.C_take (m := (x8_4 : Int).toNat) ((Kd.R_reads' (Kd.R_after (ok := (fun k_ => some k_ ≠ (.slice (some ⟨go27, 0, none⟩) y190.length co16 : Value).ownBlock ∧ some k_ ≠ (v214 : Value).ownBlock)) (kr_ HO_5.out) hg hat)).2.2) KL69.out))
                                   have n8_ := Aside0.mk ((show Kd.C (Kd.int .i64) w72 A70 y223.length y223 from by rw [Ny223.out, KA70.out]; exact Kd.C_drop (m := ((ji50) : Int).toNat) (c := co61) ((Kd.R_reads' (Kd.R_after (ok := (fun k_ => some k_ ≠ (.slice (some ⟨go27, 0, none⟩) y190.length co16 : Value).ownBlock ∧ some k_ ≠ (v214 : Value).ownBlock)) (kr_ HO_5.out) hg hat)).2.2) KL70.out ((Kd.R_reads' (Kd.R_after (ok := (fun k_ => some k_ ≠ (.slice (some ⟨go27, 0, none⟩) y190.length co16 : Value).ownBlock ∧ some k_ ≠ (v214 : Value).ownBlock)) (kr_ HO_5.out) hg hat)).2.1)))
                                   have n9_ := Aside0.mk (ho); clear HO_4; clear HO_5; clear HO201; clear HO215; clear HB; clear HR205; clear HR212; clear HR219; clear HR226; clear HO222; have HO_4 := n0_; have HO_5 := n1_; have HO201 := n2_; have HO215 := n3_; have HB := n4_; have HR205 := n5_; have HR212 := n6_; have HR219 := n7_; have HR226 := n8_; have HO229 := n9_; clear n0_ n1_ n2_ n3_ n4_ n5_ n6_ n7_ n8_ n9_; clear ho hb hg hat; refine hK.out _ _ trivial (fun hHeld => ?_)
                                   clear hK K; refine na_ (some 131) ?_; refine pa_ 9 (some 5) rfl rfl HT_ ?_; refine done_ (done_of HT_.out (by kernel_rfl)) ?_
                                   try go_wp2
                                   (try simp only [← hl4_31])
                                   go_roundg kj31
                                   case measure => have := HJ1.out; have := HK2.out; have := HK3.out; have := HK4.out; have := HJ31.out; omega
                                   case rel => exact ⟨(y213), (y227), (y199), H', ⟨by have := HJ1.out; have := HK2.out; have := HK3.out; have := HK4.out; have := HJ31.out; omega⟩, ⟨by (try simp only [hl4_31]); (with_reducible repeat (first | apply Kd.R_alloc | apply Kd.R_drewN | apply Kd.R_drew)); exact Kd.R_mono HO215.out (fun _ hk => hk.2)⟩, ⟨by (try simp only [hl4_31]); (with_reducible repeat (first | apply Kd.R_alloc | apply Kd.R_drewN | apply Kd.R_drew)); exact Kd.R_mono HO229.out (fun _ hk => hk.2.2)⟩, ⟨by (try simp only [hl4_31]); (with_reducible repeat (first | apply Kd.R_alloc | apply Kd.R_drewN | apply Kd.R_drew)); exact HO201.out⟩, ⟨bl_ HB.out⟩⟩
                                  ·rw [if_neg c59] at H
                                   exact absurd H (by simp)
                                 ·rw [if_neg c58] at H
                                  exact absurd H (by simp)
                                ·rw [if_neg c55] at H
                                 exact absurd H (by simp)
                               ·rw [if_neg c53] at H
                                exact absurd H (by simp)
                              ·rw [if_neg c52] at H
                               exact absurd H (by simp)
                             ·rw [if_neg c51] at H
                              exact absurd H (by simp)
                            ·rw [if_neg c48] at H
                             exact absurd H (by simp)
                           ·rw [if_neg c47] at H
                            exact absurd H (by simp)
                          ·rw [if_neg c46] at H
                           exact absurd H (by simp)
                         ·rw [if_neg c43] at H
                          exact absurd H (by simp)
                        ·rw [if_neg c42] at H
                         exact absurd H (by simp)
                       ·rw [if_neg c41] at H
                        exact absurd H (by simp)
                      ·rw [if_neg c40] at H
                       exact absurd H (by simp)
                  ·rw [if_neg c30] at H
                   exact absurd H (by simp)
                 ·rw [if_neg c29] at H
                  exact absurd H (by simp)
                ·rw [if_neg c26] at H
                 exact absurd H (by simp)
               ·rw [if_neg c25] at H
                exact absurd H (by simp)
         ·rw [if_neg c15] at H
          have c15b0 : decide (3 < (x4_3.length : Int)) = false := decide_eq_false c15; have c15b1 : decide (3 < x4_3.length) = false := decide_eq_false (by omega)
          clear c15; replace H := Option.bind_eq_some_iff.mp H; obtain ⟨t180, A730, H⟩ := H; have A73 := Aside0.mk A730; clear A730
          by_cases c74 : 0 < (x4_3.length : Int)
          ·rw [if_pos c74] at H
           have c74b0 : decide (0 < (x4_3.length : Int)) = true := decide_eq_true c74; have c74b1 : decide (0 < x4_3.length) = true := decide_eq_true (by omega)
           clear c74
           by_cases c75 : (rd x4_3 0) = 1
           ·rw [if_pos c75] at H
            have c75b0 : ((rd x4_3 0) == 1) = true := beq_iff_eq.mpr c75; have c75b1 : ((rd x4_3 0) != 1) = false := bne_eq_false_iff_eq.mpr c75; clear c75
            by_cases c76 : 1 < (x4_3.length : Int)
            ·rw [if_pos c76] at H
             have c76b0 : decide (1 < (x4_3.length : Int)) = true := decide_eq_true c76; have c76b1 : decide (1 < x4_3.length) = true := decide_eq_true (by omega)
             clear c76
             by_cases c77 : (rd x4_3 1) = 1
             ·rw [if_pos c77] at H
              have c77b0 : ((rd x4_3 1) == 1) = true := beq_iff_eq.mpr c77; have c77b1 : ((rd x4_3 1) != 1) = false := bne_eq_false_iff_eq.mpr c77; clear c77
              by_cases c78 : 2 < (x4_3.length : Int)
              ·rw [if_pos c78] at H
               have c78b0 : decide (2 < (x4_3.length : Int)) = true := decide_eq_true c78; have c78b1 : decide (2 < x4_3.length) = true := decide_eq_true (by omega)
               clear c78
               simp only [Option.some.injEq, Prod.mk.injEq] at H
               obtain ⟨rfl, rfl⟩ := H; obtain ⟨Ao79, co79, eo79⟩ := Kd.R_slice HO_4.out; subst eo79; obtain ⟨Ao80, co80, eo80⟩ := Kd.R_slice HO_7.out; subst eo80
               try go_wp2_with (first | ((with_reducible refine gate_callee (f := 85) rfl ?_); refine gl_ (some 133) Tryz.func85 #[.slice Ao80 x7_3.length co80] rfl ?_; (with_reducible refine (spec_poSorted.calls k3 _ _ x7_3 t180 _ ?side1 ?side2 A73.out).mono ?_); (case side1 => exact cc_ (Kd.R_reads' HO_7.out).2.2); (case side2 => exact (Kd.R_reads' HO_7.out).2.1); rintro e w81 ⟨v181, rfl, ho0, hb⟩; refine ⟨_, rfl, ?_⟩; replace HO_4 := Aside0.mk (Kd.R_below (kr_ HO_4.out) hb); replace HO_5 := Aside0.mk (Kd.R_below (kr_ HO_5.out) hb); have HO182 := Aside0.mk (Kd.R_lower (Kd.R_new' ho0 (Kd.R_lt (kr_ HO_7.out))) (below_size (bl_ HB.out))); replace HO_7 := Aside0.mk (Kd.R_elder' (kr_ HO_7.out) (Kd.R_base ho0) hb); replace HB := Aside0.mk (below_step (bl_ HB.out) hb); (try clear hb); (try clear hb2); (try clear hk); (try clear hi); (try clear ho0)))
               replace HO_4 := Aside0.mk (Kd.R_drew HO_4.out); replace HO_5 := Aside0.mk (Kd.R_drew HO_5.out); replace HO_7 := Aside0.mk (Kd.R_drew HO_7.out); replace HO182 := Aside0.mk (Kd.R_drew HO182.out); replace HB := Aside0.mk (below_drew1 HB.out); have p183 : 0 ≤ (0 : Int) := (by omega)
               have q183 : 0 < (x4_3.length : Int) := of_decide_eq_true as_; obtain ⟨ad183, e183, hx183_0⟩ := Kd.at_int (Kd.R_reads' HO_4.out).2.2 0 p183 q183
               cases e183
               have qi183 : (0 < x4_3.length) = True := eq_true (by omega)
               (try rw [show ((0 : Int)).toNat = 0 from rfl] at hx183_0)
               (try rw [Addr.add_zero'] at hx183_0)
               replace p183 := eq_true p183; replace q183 := eq_true q183; have p184 : 0 ≤ (1 : Int) := (by omega)
               have q184 : 1 < (x4_3.length : Int) := of_decide_eq_true as_; obtain ⟨ad184, e184, hx184_0⟩ := Kd.at_int (Kd.R_reads' HO_4.out).2.2 1 p184 q184; obtain rfl : ad183 = ad184 := (by injection e184)
               (try simp only [show (1 : Int).toNat = 1 from rfl, Nat.reduceMul, Nat.reduceEqDiff, Go.Addr.add, ↓reduceIte] at hx184_0)
               have qi184 : (1 < x4_3.length) = True := eq_true (by omega)
               (try rw [show ((1 : Int)).toNat = 1 from rfl] at hx184_0)
               replace p184 := eq_true p184; replace q184 := eq_true q184; have p185 : 0 ≤ (2 : Int) := (by omega)
               have q185 : 2 < (x4_3.length : Int) := of_decide_eq_true as_; obtain ⟨ad185, e185, hx185_0⟩ := Kd.at_int (Kd.R_reads' HO_4.out).2.2 2 p185 q185; obtain rfl : ad183 = ad185 := (by injection e185)
               (try simp only [show (2 : Int).toNat = 2 from rfl, Nat.reduceMul, Nat.reduceEqDiff, Go.Addr.add, ↓reduceIte] at hx185_0)
               have qi185 : (2 < x4_3.length) = True := eq_true (by omega)
               (try rw [show ((2 : Int)).toNat = 2 from rfl] at hx185_0)
               replace p185 := eq_true p185; replace q185 := eq_true q185; refine start_ (n := 19) (S := fun w' => w'.cell? ad183 = some (.int .i64 (rd x4_3 0)) ∧ w'.cell? ⟨ad183.block, ad183.off + 1, none⟩ = some (.int .i64 (rd x4_3 1)) ∧ w'.cell? ⟨ad183.block, ad183.off + 2, none⟩ = some (.int .i64 (rd x4_3 2))) (ds := []) #[false, false, false, false, false, false, false, false, false, false, false, false, false, false, false, false, false, false, false] (by kernel_rfl) rfl rfl ⟨hx183_0, hx184_0, hx185_0⟩ (fun hHeld => ?_); refine with_tabW spec_poOf.tab29 spec_poOf.bits29 (fun HT_ HW_ => ?_)
               generalize w81.drew = w82 at HO_4 HO_5 HO_7 HO182 HB hx183_0 hx184_0 hx185_0 hHeld ⊢
               refine pa_ 0 (some 134) rfl rfl HT_ ?_; refine pa_ 1 (some 135) rfl rfl HT_ ?_; refine pa_ 2 (some 136) rfl rfl HT_ ?_; refine ta2_ 3 (some 137) rfl rfl HT_ HW_ hHeld ?_; refine pa_ 4 (some 138) rfl rfl HT_ ?_; refine pa_ 5 (some 139) rfl rfl HT_ ?_; refine pa_ 6 (some 140) rfl rfl HT_ ?_; refine pa_ 7 (some 141) rfl rfl HT_ ?_; refine ta2_ 8 (some 142) rfl rfl HT_ HW_ hHeld ?_; refine pa_ 9 (some 143) rfl rfl HT_ ?_; refine pa_ 10 (some 144) rfl rfl HT_ ?_; refine pa_ 11 (some 145) rfl rfl HT_ ?_; refine pa_ 12 (some 146) rfl rfl HT_ ?_; refine pa_ 13 (some 147) rfl rfl HT_ ?_; refine pa_ 17 (some 2) rfl rfl HT_ ?_; refine ta2_ 14 (some 148) rfl rfl HT_ HW_ hHeld ?_; refine pa_ 15 (some 149) rfl rfl HT_ ?_; refine pa_ 16 (some 150) rfl rfl HT_ ?_; refine pa_ 18 (some 3) rfl rfl HT_ ?_; refine done_ (done_of HT_.out (by kernel_rfl)) ?_
               try go_wp2
               go_ret2
               exact ⟨_, by first | rfl | (simp [errW_none, errW_some] <;> rfl) | (simp [*, errW_none, errW_some] <;> rfl), by (with_reducible repeat (first | apply Kd.R_alloc | apply Kd.R_drewN | apply Kd.R_drew)); exact Kd.R_mono HO182.out (fun _ hk => trivial), bl_ HB.out⟩
              ·rw [if_neg c78] at H
               exact absurd H (by simp)
             ·rw [if_neg c77] at H
              have c77b0 : ((rd x4_3 1) == 1) = false := beq_eq_false_iff_ne.mpr c77; have c77b1 : ((rd x4_3 1) != 1) = true := bne_iff_ne.mpr c77
              simp only [Option.some.injEq, Prod.mk.injEq] at H
              obtain ⟨rfl, rfl⟩ := H; obtain ⟨Ao83, co83, eo83⟩ := Kd.R_slice HO_4.out; subst eo83; obtain ⟨Ao84, co84, eo84⟩ := Kd.R_slice HO_7.out; subst eo84
              try go_wp2_with (first | ((with_reducible refine gate_callee (f := 85) rfl ?_); refine gl_ (some 133) Tryz.func85 #[.slice Ao84 x7_3.length co84] rfl ?_; (with_reducible refine (spec_poSorted.calls k3 _ _ x7_3 t180 _ ?side1 ?side2 A73.out).mono ?_); (case side1 => exact cc_ (Kd.R_reads' HO_7.out).2.2); (case side2 => exact (Kd.R_reads' HO_7.out).2.1); rintro e w85 ⟨v181, rfl, ho0, hb⟩; refine ⟨_, rfl, ?_⟩; replace HO_4 := Aside0.mk (Kd.R_below (kr_ HO_4.out) hb); replace HO_5 := Aside0.mk (Kd.R_below (kr_ HO_5.out) hb); have HO182 := Aside0.mk (Kd.R_lower (Kd.R_new' ho0 (Kd.R_lt (kr_ HO_7.out))) (below_size (bl_ HB.out))); replace HO_7 := Aside0.mk (Kd.R_elder' (kr_ HO_7.out) (Kd.R_base ho0) hb); replace HB := Aside0.mk (below_step (bl_ HB.out) hb); (try clear hb); (try clear hb2); (try clear hk); (try clear hi); (try clear ho0)))
              replace HO_4 := Aside0.mk (Kd.R_drew HO_4.out); replace HO_5 := Aside0.mk (Kd.R_drew HO_5.out); replace HO_7 := Aside0.mk (Kd.R_drew HO_7.out); replace HO182 := Aside0.mk (Kd.R_drew HO182.out); replace HB := Aside0.mk (below_drew1 HB.out); have p183 : 0 ≤ (0 : Int) := (by omega)
              have q183 : 0 < (x4_3.length : Int) := of_decide_eq_true as_; obtain ⟨ad183, e183, hx183_0⟩ := Kd.at_int (Kd.R_reads' HO_4.out).2.2 0 p183 q183
              cases e183
              have qi183 : (0 < x4_3.length) = True := eq_true (by omega)
              (try rw [show ((0 : Int)).toNat = 0 from rfl] at hx183_0)
              (try rw [Addr.add_zero'] at hx183_0)
              replace p183 := eq_true p183; replace q183 := eq_true q183; have p184 : 0 ≤ (1 : Int) := (by omega)
              have q184 : 1 < (x4_3.length : Int) := of_decide_eq_true as_; obtain ⟨ad184, e184, hx184_0⟩ := Kd.at_int (Kd.R_reads' HO_4.out).2.2 1 p184 q184; obtain rfl : ad183 = ad184 := (by injection e184)
              (try simp only [show (1 : Int).toNat = 1 from rfl, Nat.reduceMul, Nat.reduceEqDiff, Go.Addr.add, ↓reduceIte] at hx184_0)
              have qi184 : (1 < x4_3.length) = True := eq_true (by omega)
              (try rw [show ((1 : Int)).toNat = 1 from rfl] at hx184_0)
              replace p184 := eq_true p184; replace q184 := eq_true q184; refine start_ (n := 19) (S := fun w' => w'.cell? ad183 = some (.int .i64 (rd x4_3 0)) ∧ w'.cell? ⟨ad183.block, ad183.off + 1, none⟩ = some (.int .i64 (rd x4_3 1))) (ds := []) #[false, false, false, false, false, false, false, false, false, false, false, false, false, false, false, false, false, false, false] (by kernel_rfl) rfl rfl ⟨hx183_0, hx184_0⟩ (fun hHeld => ?_); refine with_tabW spec_poOf.tab29 spec_poOf.bits29 (fun HT_ HW_ => ?_)
              generalize w85.drew = w86 at HO_4 HO_5 HO_7 HO182 HB hx183_0 hx184_0 hHeld ⊢
              refine pa_ 0 (some 134) rfl rfl HT_ ?_; refine pa_ 1 (some 135) rfl rfl HT_ ?_; refine pa_ 2 (some 136) rfl rfl HT_ ?_; refine ta1_ 3 (some 137) rfl rfl HT_ HW_ hHeld ?_; refine pa_ 4 (some 138) rfl rfl HT_ ?_; refine pa_ 5 (some 139) rfl rfl HT_ ?_; refine pa_ 6 (some 140) rfl rfl HT_ ?_; refine pa_ 7 (some 141) rfl rfl HT_ ?_; refine ta1_ 8 (some 142) rfl rfl HT_ HW_ hHeld ?_; refine pa_ 9 (some 143) rfl rfl HT_ ?_; refine pa_ 10 (some 144) rfl rfl HT_ ?_; refine pa_ 11 (some 145) rfl rfl HT_ ?_; refine pb_ 12 (some 146) rfl rfl HT_ ?_; refine pb_ 13 (some 147) rfl rfl HT_ ?_; refine pb_ 14 (some 148) rfl rfl HT_ ?_; refine pb_ 15 (some 149) rfl rfl HT_ ?_; refine pa_ 16 (some 150) rfl rfl HT_ ?_; refine pa_ 17 (some 2) rfl rfl HT_ ?_; refine pa_ 18 (some 3) rfl rfl HT_ ?_; refine done_ (done_of HT_.out (by kernel_rfl)) ?_
              try go_wp2
              go_ret2
              exact ⟨_, by first | rfl | (simp [errW_none, errW_some] <;> rfl) | (simp [*, errW_none, errW_some] <;> rfl), by (with_reducible repeat (first | apply Kd.R_alloc | apply Kd.R_drewN | apply Kd.R_drew)); exact Kd.R_mono HO182.out (fun _ hk => trivial), bl_ HB.out⟩
            ·rw [if_neg c76] at H
             exact absurd H (by simp)
           ·rw [if_neg c75] at H
            have c75b0 : ((rd x4_3 0) == 1) = false := beq_eq_false_iff_ne.mpr c75; have c75b1 : ((rd x4_3 0) != 1) = true := bne_iff_ne.mpr c75
            simp only [Option.some.injEq, Prod.mk.injEq] at H
            obtain ⟨rfl, rfl⟩ := H; obtain ⟨Ao87, co87, eo87⟩ := Kd.R_slice HO_4.out; subst eo87; obtain ⟨Ao88, co88, eo88⟩ := Kd.R_slice HO_7.out; subst eo88
            try go_wp2_with (first | ((with_reducible refine gate_callee (f := 85) rfl ?_); refine gl_ (some 133) Tryz.func85 #[.slice Ao88 x7_3.length co88] rfl ?_; (with_reducible refine (spec_poSorted.calls k3 _ _ x7_3 t180 _ ?side1 ?side2 A73.out).mono ?_); (case side1 => exact cc_ (Kd.R_reads' HO_7.out).2.2); (case side2 => exact (Kd.R_reads' HO_7.out).2.1); rintro e w89 ⟨v181, rfl, ho0, hb⟩; refine ⟨_, rfl, ?_⟩; replace HO_4 := Aside0.mk (Kd.R_below (kr_ HO_4.out) hb); replace HO_5 := Aside0.mk (Kd.R_below (kr_ HO_5.out) hb); have HO182 := Aside0.mk (Kd.R_lower (Kd.R_new' ho0 (Kd.R_lt (kr_ HO_7.out))) (below_size (bl_ HB.out))); replace HO_7 := Aside0.mk (Kd.R_elder' (kr_ HO_7.out) (Kd.R_base ho0) hb); replace HB := Aside0.mk (below_step (bl_ HB.out) hb); (try clear hb); (try clear hb2); (try clear hk); (try clear hi); (try clear ho0)))
            replace HO_4 := Aside0.mk (Kd.R_drew HO_4.out); replace HO_5 := Aside0.mk (Kd.R_drew HO_5.out); replace HO_7 := Aside0.mk (Kd.R_drew HO_7.out); replace HO182 := Aside0.mk (Kd.R_drew HO182.out); replace HB := Aside0.mk (below_drew1 HB.out); have p183 : 0 ≤ (0 : Int) := (by omega)
            have q183 : 0 < (x4_3.length : Int) := of_decide_eq_true as_; obtain ⟨ad183, e183, hx183_0⟩ := Kd.at_int (Kd.R_reads' HO_4.out).2.2 0 p183 q183
            cases e183
            have qi183 : (0 < x4_3.length) = True := eq_true (by omega)
            (try rw [show ((0 : Int)).toNat = 0 from rfl] at hx183_0)
            (try rw [Addr.add_zero'] at hx183_0)
            replace p183 := eq_true p183; replace q183 := eq_true q183; refine start_ (n := 19) (S := fun w' => w'.cell? ad183 = some (.int .i64 (rd x4_3 0))) (ds := []) #[false, false, false, false, false, false, false, false, false, false, false, false, false, false, false, false, false, false, false] (by kernel_rfl) rfl rfl (hx183_0) (fun hHeld => ?_); refine with_tabW spec_poOf.tab29 spec_poOf.bits29 (fun HT_ HW_ => ?_)
            generalize w89.drew = w90 at HO_4 HO_5 HO_7 HO182 HB hx183_0 hHeld ⊢
            refine pa_ 0 (some 134) rfl rfl HT_ ?_; refine pa_ 1 (some 135) rfl rfl HT_ ?_; refine pa_ 2 (some 136) rfl rfl HT_ ?_; refine take_ (i := 3) (N := some 137) (v := ?_) (a' := ?_) #[true, true, true, true, false, false, false, false, false, false, false, false, false, false, false, false, false, false, false] rfl rfl (take_ofW HT_.out HW_.out (by kernel_rfl)) (fun _ _ _ h => h) (Or.inl ⟨by rfl, ?_⟩) hHeld ?_ ?_
            rotate_left
            ·intro w' s0
             go_simp
             with_reducible rfl
            rotate_left
            ·simp only [Act.put, List.setIfInBounds_toArray, List.set_cons_zero, List.set_cons_succ, i64_w, i32_w]
             rfl
            refine pa_ 4 (some 138) rfl rfl HT_ ?_; refine pa_ 5 (some 139) rfl rfl HT_ ?_; refine pb_ 6 (some 140) rfl rfl HT_ ?_; refine pb_ 7 (some 141) rfl rfl HT_ ?_; refine pb_ 8 (some 142) rfl rfl HT_ ?_; refine pb_ 9 (some 143) rfl rfl HT_ ?_; refine pa_ 10 (some 144) rfl rfl HT_ ?_; refine pa_ 11 (some 145) rfl rfl HT_ ?_; refine pb_ 12 (some 146) rfl rfl HT_ ?_; refine pb_ 13 (some 147) rfl rfl HT_ ?_; refine pb_ 14 (some 148) rfl rfl HT_ ?_; refine pb_ 15 (some 149) rfl rfl HT_ ?_; refine pa_ 16 (some 150) rfl rfl HT_ ?_; refine pa_ 17 (some 2) rfl rfl HT_ ?_; refine pa_ 18 (some 3) rfl rfl HT_ ?_; refine done_ (done_of HT_.out (by kernel_rfl)) ?_
            try go_wp2
            go_ret2
            exact ⟨_, by first | rfl | (simp [errW_none, errW_some] <;> rfl) | (simp [*, errW_none, errW_some] <;> rfl), by (with_reducible repeat (first | apply Kd.R_alloc | apply Kd.R_drewN | apply Kd.R_drew)); exact Kd.R_mono HO182.out (fun _ hk => trivial), bl_ HB.out⟩
          ·rw [if_neg c74] at H
           exact absurd H (by simp)
end Go.Proofs.YtobddjeefcoikaaGreat.PFnQuidditiesTell
