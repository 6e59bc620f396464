-- Written for this claim by a program of this session (wip/tools/xprint.py over the kit's printer, wip/tools/shrink.py).
import Derived.Test.YtobddjeefcoikaaGreatPFnQuidditiesTellx0
import Derived.Test.YtobddjeefcoikaaGreatPFnQuidditiesTellx2
import Derived.Test.YtobddjeefcoikaaGreatPFnQuidditiesTellx7
import Derived.Test.YtobddjeefcoikaaGreatPFnQuidditiesTellx9
import Derived.Test.YtobddjeefcoikaaGreatPFnQuidditiesTellx12
namespace Go.Proofs.YtobddjeefcoikaaGreat.PFnQuidditiesTell
open Go.RowKit Go.Proofs.YtobddjeefcoikaaGreatW.PrintWords Go.Proofs.YtobddjeefcoikaaGreatW.PrintLast Go.Proofs.YtobddjeefcoikaaGreatW.PrintMore
attribute [local go_sem] max2_int min2_int max_two min_two max_three min_three max_four min_four   -- for this text's walks alone
set_option linter.unusedVariables false
set_option linter.unusedSimpArgs false
def spec_PeriodOfPolygon.l0 : Nat → Int → List (S46) → Int → Option (Int × Bool)
 | 0, _, _, _ => none
 | k + 1, x0, x1, x6 => if x6 < x0 then ((spec_poTurn.f k x0 x1 x6).bind fun t533 => ((spec_poSame.f k t533 x1).bind fun t536 => (if t536 = true then (some (x6, true)) else (spec_PeriodOfPolygon.l0 k x0 x1 (wrap64 (x6 + 1)))))) else (some (x0, true))
def spec_PeriodOfPolygon.f (k : Nat) (a0 : Int) (l1 : List (S46)) : Option (Int × Bool) := (spec_poGood.f k a0 l1).bind fun t532 => (if t532 = true then (spec_PeriodOfPolygon.l0 k a0 l1 1) else (some (0, false)))
set_option maxHeartbeats 8000000 in
set_option maxRecDepth 100000 in
theorem spec_PeriodOfPolygon.calls (k : Nat) (a0 : Int) (A1 : Option Addr) (c1 : Nat) (l1 : List (S46)) (r1 : Int) (r2 : Bool) (w : World) (hr1 : Kd.C k46 w A1 l1.length l1) (hc1 : l1.length ≤ c1) (h : spec_PeriodOfPolygon.f k a0 l1 = some (r1, r2)) :
  Calls Tryz.prog 15 #[.int .i64 a0, .slice A1 l1.length c1] w fun e w' => e = .returned (.tuple #[.int .i64 r1, .bool r2]) ∧ Below w.heap.size w w' := by
 have HR1 := Aside0.mk hr1; have HC1 := Aside0.mk hc1; clear hr1 hc1; have HB := Aside0.mk (Below.refl w.heap.size w); have H : ((spec_poGood.f k a0 l1).bind fun t532 => (if t532 = true then (spec_PeriodOfPolygon.l0 k a0 l1 1) else (some (0, false)))) = some (r1, r2) := h
 clear h; replace H := Option.bind_eq_some_iff.mp H; obtain ⟨t532, A30, H⟩ := H; have A3 := Aside0.mk A30; clear A30
 by_cases c4 : t532 = true
 ·subst c4
  rw [if_pos rfl] at H
  have H' := Aside0.mk H; clear H
  go_enter Tryz.func15, Tryz.ntmps15
  go_wp2_with (first | ((with_reducible refine gate_callee (f := 34) rfl ?_); refine gl_ (some 9) Tryz.func34 #[.int .i64 a0, .slice A1 l1.length c1] rfl ?_; (with_reducible refine (spec_poGood.calls k a0 _ _ l1 true _ ?side1 ?side2 A3.out).mono ?_); (case side1 => exact cc_ HR1.out); (case side2 => exact HC1.out); rintro e w5 ⟨rfl, hb⟩; refine ⟨_, rfl, ?_⟩; replace HB := Aside0.mk (below_step (bl_ HB.out) hb); (try clear hb); (try clear hb2); (try clear hk); (try clear hi)))
  go_loopg [6] k (fun kq v6 w' => ∃ (x6_1 : Int), v6 = .int .i64 x6_1 ∧ Aside0 (spec_PeriodOfPolygon.l0 kq a0 l1 x6_1 = some (r1, r2)) ∧ Aside0 (kq ≤ k) ∧ Aside0 (Below w.heap.size w w'))
  case atStart => exact ⟨(1), (fs_), H', ⟨Nat.le_refl _⟩, ⟨bl_ HB.out⟩⟩
  case round =>
   clear H'
   try clear c1
   try clear p2
   try clear c3
   try clear c4
   obtain ⟨x6_1, rfl, HA, HK1, HB⟩ := hrel
   cases gk with
   | zero => exact absurd HA.out (by simp [spec_PeriodOfPolygon.l0])
   | succ k1 =>
    have H := HA.out; clear HA
    simp only [spec_PeriodOfPolygon.l0] at H
    by_cases c6 : x6_1 < a0
    ·rw [if_pos c6] at H
     have c6b0 : decide (x6_1 < a0) = true := decide_eq_true c6; clear c6; replace H := Option.bind_eq_some_iff.mp H; obtain ⟨t533, A70, H⟩ := H; have A7 := Aside0.mk A70; clear A70; replace H := Option.bind_eq_some_iff.mp H; obtain ⟨t536, A80, H⟩ := H; have A8 := Aside0.mk A80; clear A80
     by_cases c9 : t536 = true
     ·subst c9
      rw [if_pos rfl] at H
      simp only [Option.some.injEq, Prod.mk.injEq] at H
      obtain ⟨rfl, rfl⟩ := H
      go_wp2_with (first | ((with_reducible refine gate_callee (f := 43) rfl ?_); refine gl_ (some 19) Tryz.func43 #[.int .i64 a0, .slice A1 l1.length c1, .int .i64 x6_1] rfl ?_; (with_reducible refine (spec_poTurn.calls k1 a0 _ _ l1 x6_1 t533 _ ?side1 ?side2 A7.out).mono ?_); (case side1 => exact cc_ (Kd.C_below HR1.out HB.out)); (case side2 => exact HC1.out); rintro e w10 ⟨v534, rfl, ho0, hb⟩; refine ⟨_, rfl, ?_⟩; have HO535 := Aside0.mk (Kd.R_lower ho0 (below_size (bl_ HB.out))); replace HB := Aside0.mk (below_step (bl_ HB.out) hb); (try clear hb); (try clear hb2); (try clear hk); (try clear hi); (try clear ho0); obtain ⟨Ao11, co11, eo11⟩ := Kd.R_slice HO535.out; subst eo11) | ((with_reducible refine gate_callee (f := 42) rfl ?_); refine gl_ (some 21) Tryz.func42 #[.slice Ao11 t533.length co11, .slice A1 l1.length c1] rfl ?_; (with_reducible refine (spec_poSame.calls k1 _ _ t533 _ _ l1 true _ ?side1 ?side2 ?side3 ?side4 A8.out).mono ?_); (case side1 => exact cc_ (Kd.R_reads' HO535.out).2.2); (case side2 => exact (Kd.R_reads' HO535.out).2.1); (case side3 => exact cc_ (Kd.C_below HR1.out HB.out)); (case side4 => exact HC1.out); rintro e w' ⟨rfl, ⟨nd, rfl⟩⟩; refine ⟨_, rfl, ?_⟩))
      go_ret2
      exact ⟨by first | rfl | (simp [errW_none, errW_some] <;> rfl) | (simp [*, errW_none, errW_some] <;> rfl), bl_ HB.out⟩
     ·replace c9 := Bool.eq_false_iff.mpr c9
      subst c9; rw [if_neg (show ¬ (false = true) by decide)] at H
      have H' := Aside0.mk H; clear H
      go_wp2_with (first | ((with_reducible refine gate_callee (f := 43) rfl ?_); refine gl_ (some 19) Tryz.func43 #[.int .i64 a0, .slice A1 l1.length c1, .int .i64 x6_1] rfl ?_; (with_reducible refine (spec_poTurn.calls k1 a0 _ _ l1 x6_1 t533 _ ?side1 ?side2 A7.out).mono ?_); (case side1 => exact cc_ (Kd.C_below HR1.out HB.out)); (case side2 => exact HC1.out); rintro e w12 ⟨v534, rfl, ho0, hb⟩; refine ⟨_, rfl, ?_⟩; have HO535 := Aside0.mk (Kd.R_lower ho0 (below_size (bl_ HB.out))); replace HB := Aside0.mk (below_step (bl_ HB.out) hb); (try clear hb); (try clear hb2); (try clear hk); (try clear hi); (try clear ho0); obtain ⟨Ao13, co13, eo13⟩ := Kd.R_slice HO535.out; subst eo13) | ((with_reducible refine gate_callee (f := 42) rfl ?_); refine gl_ (some 21) Tryz.func42 #[.slice Ao13 t533.length co13, .slice A1 l1.length c1] rfl ?_; (with_reducible refine (spec_poSame.calls k1 _ _ t533 _ _ l1 false _ ?side1 ?side2 ?side3 ?side4 A8.out).mono ?_); (case side1 => exact cc_ (Kd.R_reads' HO535.out).2.2); (case side2 => exact (Kd.R_reads' HO535.out).2.1); (case side3 => exact cc_ (Kd.C_below HR1.out HB.out)); (case side4 => exact HC1.out); rintro e w' ⟨rfl, ⟨nd, rfl⟩⟩; refine ⟨_, rfl, ?_⟩))
      go_roundg k1
      case measure => have := HK1.out; omega
      case rel => exact ⟨(wrap64 (x6_1 + 1)), (fs_), H', ⟨by have := HK1.out; omega⟩, ⟨bl_ HB.out⟩⟩
    ·rw [if_neg c6] at H
     have c6b0 : decide (x6_1 < a0) = false := decide_eq_false c6; clear c6
     simp only [Option.some.injEq, Prod.mk.injEq] at H
     obtain ⟨rfl, rfl⟩ := H
     go_wp2
     go_ret2
     exact ⟨by first | rfl | (simp [errW_none, errW_some] <;> rfl) | (simp [*, errW_none, errW_some] <;> rfl), bl_ HB.out⟩
 ·replace c4 := Bool.eq_false_iff.mpr c4
  subst c4; rw [if_neg (show ¬ (false = true) by decide)] at H
  simp only [Option.some.injEq, Prod.mk.injEq] at H
  obtain ⟨rfl, rfl⟩ := H
  go_enter Tryz.func15, Tryz.ntmps15
  go_wp2_with (first | ((with_reducible refine gate_callee (f := 34) rfl ?_); refine gl_ (some 9) Tryz.func34 #[.int .i64 a0, .slice A1 l1.length c1] rfl ?_; (with_reducible refine (spec_poGood.calls k a0 _ _ l1 false _ ?side1 ?side2 A3.out).mono ?_); (case side1 => exact cc_ HR1.out); (case side2 => exact HC1.out); rintro e w14 ⟨rfl, hb⟩; refine ⟨_, rfl, ?_⟩; replace HB := Aside0.mk (below_step (bl_ HB.out) hb); (try clear hb); (try clear hb2); (try clear hk); (try clear hi)))
  go_ret2
  exact ⟨by first | rfl | (simp [errW_none, errW_some] <;> rfl) | (simp [*, errW_none, errW_some] <;> rfl), bl_ HB.out⟩
def spec_poMirror.l0 : Nat → Int → List (S46) → List Int → Int → Option ((List (S46)))
 | 0, _, _, _, _ => none
 | k + 1, x0, x1, x5, x6 => if x6 < x0 then (if x5.length < 17592186044416 then (spec_poMirror.l0 k x0 x1 (x5 ++ [wrap64 ((wrap64 (x0 - 1)) - x6)]) (wrap64 (x6 + 1))) else (none)) else ((spec_poMap.f k x1 x5).bind fun t555 => (some t555))
def spec_poMirror.f (k : Nat) (a0 : Int) (l1 : List (S46)) : Option ((List (S46))) := spec_poMirror.l0 k a0 l1 ([] : List Int) 0
set_option maxHeartbeats 8000000 in
set_option maxRecDepth 100000 in
theorem spec_poMirror.calls (k : Nat) (a0 : Int) (A1 : Option Addr) (c1 : Nat) (l1 : List (S46)) (r : List (S46)) (w : World) (hr1 : Kd.C k46 w A1 l1.length l1) (hc1 : l1.length ≤ c1) (h : spec_poMirror.f k a0 l1 = some r) :
  Calls Tryz.prog 45 #[.int .i64 a0, .slice A1 l1.length c1] w fun e w' => ∃ v0_ : Value, e = .returned (v0_) ∧ Kd.R k46 46 w' w.heap.size (fun _ => True) v0_ r ∧ Below w.heap.size w w' := by
 have HR1 := Aside0.mk hr1; have HC1 := Aside0.mk hc1; clear hr1 hc1; have HB := Aside0.mk (Below.refl w.heap.size w); have H : (spec_poMirror.l0 k a0 l1 ([] : List Int) 0) = some r := h; clear h; have H' := Aside0.mk H; clear H
 go_enter Tryz.func45, Tryz.ntmps45
 go_wp2
 go_loopg [5, 6] k (fun kq v5 v6 w' => ∃ (x5_1 : List Int) (x6_1 : Int), v6 = .int .i64 x6_1 ∧ Aside0 (spec_poMirror.l0 kq a0 l1 x5_1 x6_1 = some r) ∧ Aside0 (kq ≤ k) ∧ Aside0 (Kd.R (Kd.int .i64) 3 w' w.heap.size (fun _ => True) v5 x5_1) ∧ Aside0 (Below w.heap.size w w'))
 case atStart => exact ⟨(([] : List Int)), (0), (fs_), H', ⟨Nat.le_refl _⟩, ⟨by first | exact Kd.R_nil _ _ _ _ _ | exact Kd.N_nil _ _ _ _ _ | exact Kd.V_nil _ _ _ _ _ | exact Kd.Q_nil _ _ _ _ _ | exact Kd.S_nil _ _ _ _ _⟩, ⟨bl_ HB.out⟩⟩
 case round =>
  clear H'
  try clear c1
  try clear p2
  obtain ⟨x5_1, x6_1, rfl, HA, HK1, HO_5, HB⟩ := hrel
  cases gk with
  | zero => exact absurd HA.out (by simp [spec_poMirror.l0])
  | succ k1 =>
   have H := HA.out; clear HA
   simp only [spec_poMirror.l0] at H
   by_cases c3 : x6_1 < a0
   ·rw [if_pos c3] at H
    have c3b0 : decide (x6_1 < a0) = true := decide_eq_true c3; clear c3
    by_cases c4 : x5_1.length < 17592186044416
    ·rw [if_pos c4] at H
     have LMc4 := Aside0.mk c4; clear c4; obtain ⟨y552, hy552⟩ : ∃ y_ : List Int, y_ = (x5_1 ++ [wrap64 ((wrap64 (a0 - 1)) - x6_1)]) := ⟨_, rfl⟩; replace H : (spec_poMirror.l0 k1 a0 l1 y552 (wrap64 (x6_1 + 1))) = some r := rh_ hy552 H; have Ny552 := Aside0.mk hy552; clear hy552; have H' := Aside0.mk H; clear H
     go_wp2_with (first | ((with_reducible refine gate_builtin (b := .append) (xs := #[.tmp 12, .tmp 17]) rfl ?_); at_builtin; refine Kd.R_append (Kd.int .i64) (w0 := w) w.heap.size rfl (.tmp 12) (.tmp 17) 27 3 (.int .i64 0) 8 rfl Tryz.underlying27 info3 rfl (by decide) (by omega) u5 x5_1 (wrap64 ((wrap64 (a0 - 1)) - x6_1)) [.int .i64 (wrap64 ((wrap64 (a0 - 1)) - x6_1))] (fun _ => True) (fun _ => False) rfl rfl ?aP (fun _ hk => hk.elim) ?aF ?aO ?aB ?aS ?aL ?_; (case aP => exact rfl); (case aB => exact (bl_ HB.out)); (case aF => exact (fun _ _ => trivial)); (case aO => exact (kr_ HO_5.out)); (case aS => exact (below_size (bl_ HB.out))); (case aL => have := LMc4.out; omega); intro v553 w5 ho hb hg hat; rw [← Ny552.out] at ho; replace HB := Aside0.mk (hb); have HO554 := Aside0.mk (ho); clear HO_5 ho hb hg hat))
     go_roundg k1
     case measure => have := HK1.out; omega
     case rel => exact ⟨(y552), (wrap64 (x6_1 + 1)), (fs_), H', ⟨by have := HK1.out; omega⟩, ⟨kr_ HO554.out⟩, ⟨bl_ HB.out⟩⟩
    ·rw [if_neg c4] at H
     exact absurd H (by simp)
   ·rw [if_neg c3] at H
    have c3b0 : decide (x6_1 < a0) = false := decide_eq_false c3; clear c3; replace H := Option.bind_eq_some_iff.mp H; obtain ⟨t555, A60, H⟩ := H; have A6 := Aside0.mk A60; clear A60; obtain rfl := Option.some.inj H; obtain ⟨Ao7, co7, eo7⟩ := Kd.R_slice HO_5.out; subst eo7
    go_wp2_with (first | ((with_reducible refine gate_callee (f := 68) rfl ?_); refine gl_ (some 21) Tryz.func68 #[.slice A1 l1.length c1, .slice Ao7 x5_1.length co7] rfl ?_; (with_reducible refine (spec_poMap.calls k1 _ _ l1 _ _ x5_1 t555 _ ?side1 ?side2 ?side3 ?side4 A6.out).mono ?_); (case side1 => exact cc_ (Kd.C_below HR1.out HB.out)); (case side2 => exact HC1.out); (case side3 => exact cc_ (Kd.R_reads' HO_5.out).2.2); (case side4 => exact (Kd.R_reads' HO_5.out).2.1); rintro e w8 ⟨v556, rfl, ho0, hb⟩; refine ⟨_, rfl, ?_⟩; replace HO_5 := Aside0.mk (Kd.R_below (kr_ HO_5.out) hb); have HO557 := Aside0.mk (Kd.R_lower ho0 (below_size (bl_ HB.out))); replace HB := Aside0.mk (below_step (bl_ HB.out) hb); (try clear hb); (try clear hb2); (try clear hk); (try clear hi); (try clear ho0)))
    go_ret
    exact ⟨_, by first | rfl | (simp [errW_none, errW_some] <;> rfl) | (simp [*, errW_none, errW_some] <;> rfl), by (with_reducible repeat (first | apply Kd.R_alloc | apply Kd.R_drewN | apply Kd.R_drew)); exact HO557.out, bl_ HB.out⟩
def spec_MirrorPolygon.f (k : Nat) (a0 : Int) (l1 : List (S46)) : Option ((List (S46)) × Bool) := (spec_poGood.f k a0 l1).bind fun t558 => (if t558 = true then ((spec_poMirror.f k a0 l1).bind fun t559 => (some (t559, true))) else (some (([] : List (S46)), false)))
set_option maxHeartbeats 8000000 in
set_option maxRecDepth 100000 in
theorem spec_MirrorPolygon.calls (k : Nat) (a0 : Int) (A1 : Option Addr) (c1 : Nat) (l1 : List (S46)) (r1 : List (S46)) (r2 : Bool) (w : World) (hr1 : Kd.C k46 w A1 l1.length l1) (hc1 : l1.length ≤ c1) (h : spec_MirrorPolygon.f k a0 l1 = some (r1, r2)) :
  Calls Tryz.prog 17 #[.int .i64 a0, .slice A1 l1.length c1] w fun e w' => ∃ v0_ : Value, e = .returned (.tuple #[v0_, .bool r2]) ∧ Kd.R k46 46 w' w.heap.size (fun _ => True) v0_ r1 ∧ Below w.heap.size w w' := by
 have HR1 := Aside0.mk hr1; have HC1 := Aside0.mk hc1; clear hr1 hc1; have HB := Aside0.mk (Below.refl w.heap.size w); have H : ((spec_poGood.f k a0 l1).bind fun t558 => (if t558 = true then ((spec_poMirror.f k a0 l1).bind fun t559 => (some (t559, true))) else (some (([] : List (S46)), false)))) = some (r1, r2) := h
 clear h; replace H := Option.bind_eq_some_iff.mp H; obtain ⟨t558, A30, H⟩ := H; have A3 := Aside0.mk A30; clear A30
 by_cases c4 : t558 = true
 ·subst c4
  rw [if_pos rfl] at H
  replace H := Option.bind_eq_some_iff.mp H; obtain ⟨t559, A50, H⟩ := H; have A5 := Aside0.mk A50; clear A50
  simp only [Option.some.injEq, Prod.mk.injEq] at H
  obtain ⟨rfl, rfl⟩ := H
  go_enter Tryz.func17, Tryz.ntmps17
  go_wp2_with (first | ((with_reducible refine gate_callee (f := 34) rfl ?_); refine gl_ (some 8) Tryz.func34 #[.int .i64 a0, .slice A1 l1.length c1] rfl ?_; (with_reducible refine (spec_poGood.calls k a0 _ _ l1 true _ ?side1 ?side2 A3.out).mono ?_); (case side1 => exact cc_ HR1.out); (case side2 => exact HC1.out); rintro e w6 ⟨rfl, hb⟩; refine ⟨_, rfl, ?_⟩; replace HB := Aside0.mk (below_step (bl_ HB.out) hb); (try clear hb); (try clear hb2); (try clear hk); (try clear hi)) | ((with_reducible refine gate_callee (f := 45) rfl ?_); refine gl_ (some 12) Tryz.func45 #[.int .i64 a0, .slice A1 l1.length c1] rfl ?_; (with_reducible refine (spec_poMirror.calls k a0 _ _ l1 t559 _ ?side1 ?side2 A5.out).mono ?_); (case side1 => exact cc_ (Kd.C_below HR1.out HB.out)); (case side2 => exact HC1.out); rintro e w7 ⟨v560, rfl, ho0, hb⟩; refine ⟨_, rfl, ?_⟩; have HO561 := Aside0.mk (Kd.R_lower ho0 (below_size (bl_ HB.out))); replace HB := Aside0.mk (below_step (bl_ HB.out) hb); (try clear hb); (try clear hb2); (try clear hk); (try clear hi); (try clear ho0)))
  go_ret2
  exact ⟨_, by first | rfl | (simp [errW_none, errW_some] <;> rfl) | (simp [*, errW_none, errW_some] <;> rfl), by (with_reducible repeat (first | apply Kd.R_alloc | apply Kd.R_drewN | apply Kd.R_drew)); exact HO561.out, bl_ HB.out⟩
 ·replace c4 := Bool.eq_false_iff.mpr c4
  subst c4; rw [if_neg (show ¬ (false = true) by decide)] at H
  simp only [Option.some.injEq, Prod.mk.injEq] at H
  obtain ⟨rfl, rfl⟩ := H
  go_enter Tryz.func17, Tryz.ntmps17
  go_wp2_with (first | ((with_reducible refine gate_callee (f := 34) rfl ?_); refine gl_ (some 8) Tryz.func34 #[.int .i64 a0, .slice A1 l1.length c1] rfl ?_; (with_reducible refine (spec_poGood.calls k a0 _ _ l1 false _ ?side1 ?side2 A3.out).mono ?_); (case side1 => exact cc_ HR1.out); (case side2 => exact HC1.out); rintro e w8 ⟨rfl, hb⟩; refine ⟨_, rfl, ?_⟩; replace HB := Aside0.mk (below_step (bl_ HB.out) hb); (try clear hb); (try clear hb2); (try clear hk); (try clear hi)))
  go_ret2
  exact ⟨_, by first | rfl | (simp [errW_none, errW_some] <;> rfl) | (simp [*, errW_none, errW_some] <;> rfl), by first | exact Kd.R_nil _ _ _ _ _ | exact Kd.N_nil _ _ _ _ _ | exact Kd.V_nil _ _ _ _ _ | exact Kd.Q_nil _ _ _ _ _ | exact Kd.S_nil _ _ _ _ _, bl_ HB.out⟩
def spec_IsTriangulation.f (k : Nat) (a0 : Int) (l1 : List (S46)) : Option (Bool) := (spec_poGood.f k a0 l1).bind fun t569 => (some t569)
set_option maxHeartbeats 8000000 in
set_option maxRecDepth 100000 in
theorem spec_IsTriangulation.calls (k : Nat) (a0 : Int) (A1 : Option Addr) (c1 : Nat) (l1 : List (S46)) (r : Bool) (w : World) (hr1 : Kd.C k46 w A1 l1.length l1) (hc1 : l1.length ≤ c1) (h : spec_IsTriangulation.f k a0 l1 = some r) :
  Calls Tryz.prog 22 #[.int .i64 a0, .slice A1 l1.length c1] w fun e w' => e = .returned (.bool r) ∧ Below w.heap.size w w' := by
 have HR1 := Aside0.mk hr1; have HC1 := Aside0.mk hc1; clear hr1 hc1; have HB := Aside0.mk (Below.refl w.heap.size w); have H : ((spec_poGood.f k a0 l1).bind fun t569 => (some t569)) = some r := h
 clear h; replace H := Option.bind_eq_some_iff.mp H; obtain ⟨t569, A30, H⟩ := H; have A3 := Aside0.mk A30; clear A30; obtain rfl := Option.some.inj H
 go_enter Tryz.func22, Tryz.ntmps22
 go_wp2_with (first | ((with_reducible refine gate_callee (f := 34) rfl ?_); refine gl_ (some 7) Tryz.func34 #[.int .i64 a0, .slice A1 l1.length c1] rfl ?_; (with_reducible refine (spec_poGood.calls k a0 _ _ l1 t569 _ ?side1 ?side2 A3.out).mono ?_); (case side1 => exact cc_ HR1.out); (case side2 => exact HC1.out); rintro e w4 ⟨rfl, hb⟩; refine ⟨_, rfl, ?_⟩; replace HB := Aside0.mk (below_step (bl_ HB.out) hb); (try clear hb); (try clear hb2); (try clear hk); (try clear hi)))
 go_ret
 exact ⟨by first | rfl | (simp [errW_none, errW_some] <;> rfl) | (simp [*, errW_none, errW_some] <;> rfl), bl_ HB.out⟩
def spec_DrawTurnPolygon.f (k : Nat) (l0 : List Int) : Option (Int × (List S46) × Int) := (spec_l1Cur_polygon.f k l0 0 0 9).bind fun b => (spec_l1Cur_pick.f l0 b.2.2.1 b.2.2.2 9).bind fun p => (spec_l1Cur_pick.f l0 p.2.1 p.2.2 9).bind fun q => if 0 ≤ p.1 ∧ p.1 ≤ 1000 ∧ 0 ≤ q.1 ∧ q.1 ≤ 1000 then some (b.1, b.2.1, wrap64 (p.1 - q.1 / 8)) else none
set_option maxHeartbeats 8000000 in
set_option maxRecDepth 100000 in
theorem spec_DrawTurnPolygon.calls (k : Nat) (A0 : Option Addr) (c0 : Nat) (l0 : List Int) (r1 : Int) (r2 : List S46) (r3 : Int) (w : World) (hr0 : Kd.C (Kd.int .u8) w A0 l0.length l0) (hc0 : l0.length ≤ c0) (h : spec_DrawTurnPolygon.f k l0 = some (r1, r2, r3)) :
  Calls Tryz.prog 29 #[.slice A0 l0.length c0] w fun e w' => ∃ v0_ : Value, e = .returned (.tuple #[.int .i64 r1, v0_, .int .i64 r3]) ∧ Kd.R k46 46 w' w.heap.size (fun _ => True) v0_ r2 ∧ Below w.heap.size w w' := by
 have HR := Aside0.mk hr0
 unfold spec_DrawTurnPolygon.f at h
 obtain ⟨⟨b1, b2, b3, b4⟩, hb, h⟩ := Option.bind_eq_some_iff.1 h; obtain ⟨⟨p1, p2, p3⟩, hp, h⟩ := Option.bind_eq_some_iff.1 h; obtain ⟨⟨q1, q2, q3⟩, hq, h⟩ := Option.bind_eq_some_iff.1 h
 by_cases hc : 0 ≤ p1 ∧ p1 ≤ 1000 ∧ 0 ≤ q1 ∧ q1 ≤ 1000
 case neg => rw [if_neg hc] at h; cases h
 rw [if_pos hc] at h
 cases h
 have HP := Aside0.mk hb; have HP2 := Aside0.mk hp; have HP3 := Aside0.mk hq; have h8 : q1.tdiv 8 = q1 / 8 := Int.tdiv_eq_ediv_of_nonneg hc.2.2.1; have h9 : wrap64 (q1 / 8) = q1 / 8 := by have := hc.2.2; simp only [wrap64]; omega
 clear hr0 hc0 hb hp hq hc
 go_enter Tryz.func29, Tryz.ntmps29
 go_wp2_with (first | ((with_reducible refine gate_dst (N := 10) rfl ?_); refine be_ #[.slice A0 l0.length c0, .int .i64 0, .int .u64 0] 66 ?_; intro g hg w1 hbox hb; have HI := Aside0.mk (show IsS66 w w1 g l0 0 0 from ⟨A0, c0, hbox, Nat.le_of_eq hg.symm, HR.out⟩); have HB1 := Aside0.mk hb; clear hb hbox hg) | (go_at_call 53; refine (spec_l1Cur_polygon.calls k g l0 0 0 9 b1 b2 b3 b4 w w1 HI.out HB1.out HP.out).mono ?_; rintro e w2 ⟨v, rfl, ho, hI2, hb2, hk2⟩; have HO := Aside0.mk ho; have HI2 := Aside0.mk hI2; have HB2 := Aside0.mk hb2; clear ho hI2 hb2 hk2) | (go_at_call 54; refine (spec_l1Cur_pick.calls g l0 b3 b4 9 p1 p2 p3 w w2 HI2.out HB2.out HP2.out).mono ?_; rintro e w3 ⟨rfl, hI3, hb3, hk3⟩; have HO3 := Aside0.mk (Kd.R_keep (IsS66.apart HI2.out HO.out (by decide)) hk3 (fun _ hk => hk.2)); have HI3 := Aside0.mk hI3; have HB3 := Aside0.mk hb3; clear hI3 hb3 hk3) | (go_at_call 54; refine (spec_l1Cur_pick.calls g l0 p2 p3 9 q1 q2 q3 w w3 HI3.out HB3.out HP3.out).mono ?_; rintro e w4 ⟨rfl, hI4, hb4, hk4⟩; have HO4 := Aside0.mk (Kd.R_keep HO3.out hk4 (fun _ hk => hk.2)); have HB4 := Aside0.mk hb4; clear hI4 hb4 hk4))
 go_ret3
 exact ⟨_, rfl, Kd.R_mono (Kd.R_lower HO4.out HB1.out.size) (fun _ _ => trivial), HB4.out⟩
def spec_TurnPolygon.f (k : Nat) (a0 : Int) (l1 : List (S46)) (a2 : Int) : Option ((List (S46)) × Bool) := (spec_poGood.f k a0 l1).bind fun t634 => (if t634 = true then ((spec_l1In.f a2 0 (wrap64 (a0 - 1))).bind fun t635 => (if t635 = true then ((spec_poTurn.f k a0 l1 a2).bind fun t636 => (some (t636, true))) else (some (([] : List (S46)), false)))) else (some (([] : List (S46)), false)))
set_option maxHeartbeats 8000000 in
set_option maxRecDepth 100000 in
theorem spec_TurnPolygon.calls (k : Nat) (a0 : Int) (A1 : Option Addr) (c1 : Nat) (l1 : List (S46)) (a2 : Int) (r1 : List (S46)) (r2 : Bool) (w : World) (hr1 : Kd.C k46 w A1 l1.length l1) (hc1 : l1.length ≤ c1) (h : spec_TurnPolygon.f k a0 l1 a2 = some (r1, r2)) :
  Calls Tryz.prog 31 #[.int .i64 a0, .slice A1 l1.length c1, .int .i64 a2] w fun e w' => ∃ v0_ : Value, e = .returned (.tuple #[v0_, .bool r2]) ∧ Kd.R k46 46 w' w.heap.size (fun _ => True) v0_ r1 ∧ Below w.heap.size w w' := by
 have HR1 := Aside0.mk hr1; have HC1 := Aside0.mk hc1; clear hr1 hc1; have HB := Aside0.mk (Below.refl w.heap.size w); have H : ((spec_poGood.f k a0 l1).bind fun t634 => (if t634 = true then ((spec_l1In.f a2 0 (wrap64 (a0 - 1))).bind fun t635 => (if t635 = true then ((spec_poTurn.f k a0 l1 a2).bind fun t636 => (some (t636, true))) else (some (([] : List (S46)), false)))) else (some (([] : List (S46)), false)))) = some (r1, r2) := h
 clear h; replace H := Option.bind_eq_some_iff.mp H; obtain ⟨t634, A40, H⟩ := H; have A4 := Aside0.mk A40; clear A40
 by_cases c5 : t634 = true
 ·subst c5
  rw [if_pos rfl] at H
  replace H := Option.bind_eq_some_iff.mp H; obtain ⟨t635, A60, H⟩ := H; have A6 := Aside0.mk A60; clear A60
  by_cases c7 : t635 = true
  ·subst c7
   rw [if_pos rfl] at H
   replace H := Option.bind_eq_some_iff.mp H; obtain ⟨t636, A80, H⟩ := H; have A8 := Aside0.mk A80; clear A80
   simp only [Option.some.injEq, Prod.mk.injEq] at H
   obtain ⟨rfl, rfl⟩ := H
   go_enter Tryz.func31, Tryz.ntmps31
   go_wp2_with (first | ((with_reducible refine gate_callee (f := 34) rfl ?_); refine gl_ (some 10) Tryz.func34 #[.int .i64 a0, .slice A1 l1.length c1] rfl ?_; (with_reducible refine (spec_poGood.calls k a0 _ _ l1 true _ ?side1 ?side2 A4.out).mono ?_); (case side1 => exact cc_ HR1.out); (case side2 => exact HC1.out); rintro e w9 ⟨rfl, hb⟩; refine ⟨_, rfl, ?_⟩; replace HB := Aside0.mk (below_step (bl_ HB.out) hb); (try clear hb); (try clear hb2); (try clear hk); (try clear hi)) | (go_at_call 56; (with_reducible refine (spec_l1In.calls a2 0 (wrap64 (a0 - 1)) true _ A6.out).mono ?_); rintro e w' ⟨rfl, ⟨nd, rfl⟩⟩) | ((with_reducible refine gate_callee (f := 43) rfl ?_); refine gl_ (some 22) Tryz.func43 #[.int .i64 a0, .slice A1 l1.length c1, .int .i64 a2] rfl ?_; (with_reducible refine (spec_poTurn.calls k a0 _ _ l1 a2 t636 _ ?side1 ?side2 A8.out).mono ?_); (case side1 => exact cc_ (Kd.C_below HR1.out (bl_ HB.out))); (case side2 => exact HC1.out); rintro e w10 ⟨v637, rfl, ho0, hb⟩; refine ⟨_, rfl, ?_⟩; have HO638 := Aside0.mk (Kd.R_lower ho0 (below_size (bl_ HB.out))); replace HB := Aside0.mk (below_step (bl_ HB.out) hb); (try clear hb); (try clear hb2); (try clear hk); (try clear hi); (try clear ho0)))
   go_ret2
   exact ⟨_, by first | rfl | (simp [errW_none, errW_some] <;> rfl) | (simp [*, errW_none, errW_some] <;> rfl), by (with_reducible repeat (first | apply Kd.R_alloc | apply Kd.R_drewN | apply Kd.R_drew)); exact HO638.out, bl_ HB.out⟩
  ·replace c7 := Bool.eq_false_iff.mpr c7
   subst c7; rw [if_neg (show ¬ (false = true) by decide)] at H
   simp only [Option.some.injEq, Prod.mk.injEq] at H
   obtain ⟨rfl, rfl⟩ := H
   go_enter Tryz.func31, Tryz.ntmps31
   go_wp2_with (first | ((with_reducible refine gate_callee (f := 34) rfl ?_); refine gl_ (some 10) Tryz.func34 #[.int .i64 a0, .slice A1 l1.length c1] rfl ?_; (with_reducible refine (spec_poGood.calls k a0 _ _ l1 true _ ?side1 ?side2 A4.out).mono ?_); (case side1 => exact cc_ HR1.out); (case side2 => exact HC1.out); rintro e w11 ⟨rfl, hb⟩; refine ⟨_, rfl, ?_⟩; replace HB := Aside0.mk (below_step (bl_ HB.out) hb); (try clear hb); (try clear hb2); (try clear hk); (try clear hi)) | (go_at_call 56; (with_reducible refine (spec_l1In.calls a2 0 (wrap64 (a0 - 1)) false _ A6.out).mono ?_); rintro e w' ⟨rfl, ⟨nd, rfl⟩⟩))
   go_ret2
   exact ⟨_, by first | rfl | (simp [errW_none, errW_some] <;> rfl) | (simp [*, errW_none, errW_some] <;> rfl), by first | exact Kd.R_nil _ _ _ _ _ | exact Kd.N_nil _ _ _ _ _ | exact Kd.V_nil _ _ _ _ _ | exact Kd.Q_nil _ _ _ _ _ | exact Kd.S_nil _ _ _ _ _, bl_ HB.out⟩
 ·replace c5 := Bool.eq_false_iff.mpr c5
  subst c5; rw [if_neg (show ¬ (false = true) by decide)] at H
  simp only [Option.some.injEq, Prod.mk.injEq] at H
  obtain ⟨rfl, rfl⟩ := H
  go_enter Tryz.func31, Tryz.ntmps31
  go_wp2_with (first | ((with_reducible refine gate_callee (f := 34) rfl ?_); refine gl_ (some 10) Tryz.func34 #[.int .i64 a0, .slice A1 l1.length c1] rfl ?_; (with_reducible refine (spec_poGood.calls k a0 _ _ l1 false _ ?side1 ?side2 A4.out).mono ?_); (case side1 => exact cc_ HR1.out); (case side2 => exact HC1.out); rintro e w12 ⟨rfl, hb⟩; refine ⟨_, rfl, ?_⟩; replace HB := Aside0.mk (below_step (bl_ HB.out) hb); (try clear hb); (try clear hb2); (try clear hk); (try clear hi)))
  go_ret2
  exact ⟨_, by first | rfl | (simp [errW_none, errW_some] <;> rfl) | (simp [*, errW_none, errW_some] <;> rfl), by first | exact Kd.R_nil _ _ _ _ _ | exact Kd.N_nil _ _ _ _ _ | exact Kd.V_nil _ _ _ _ _ | exact Kd.Q_nil _ _ _ _ _ | exact Kd.S_nil _ _ _ _ _, bl_ HB.out⟩
end Go.Proofs.YtobddjeefcoikaaGreat.PFnQuidditiesTell
