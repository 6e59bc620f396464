-- Written for this claim by a program of this session (wip/tools/xprint.py over the kit's printer, wip/tools/shrink.py).
import Derived.Test.YtcfcnnnkpdhecaaGreatPFnContinuantsSplitx0
import Derived.Test.YtcfcnnnkpdhecaaGreatPFnContinuantsSplitx1
import Derived.Test.YtcfcnnnkpdhecaaGreatPFnContinuantsSplitx2
import Derived.Test.YtcfcnnnkpdhecaaGreatPFnContinuantsSplitx4
import Derived.Test.YtcfcnnnkpdhecaaGreatPFnContinuantsSplitx6
namespace Go.Proofs.YtcfcnnnkpdhecaaGreat.PFnContinuantsSplit
open Go.RowKit Go.Proofs.YtcfcnnnkpdhecaaGreatW.PrintWords Go.Proofs.YtcfcnnnkpdhecaaGreatW.PrintLast Go.Proofs.YtcfcnnnkpdhecaaGreatW.PrintMore
attribute [local go_sem] max2_int min2_int max_two min_two max_three min_three max_four min_four   -- for this text's walks alone
set_option linter.unusedVariables false
set_option linter.unusedSimpArgs false
def spec_IsQuiddity.f (k : Nat) (l0 : List Int) : Option (Bool) := (spec_poOf.f k l0).bind fun bt599 => (some bt599.2)
set_option maxHeartbeats 8000000 in
set_option maxRecDepth 100000 in
theorem spec_IsQuiddity.calls (k : Nat) (A0 : Option Addr) (c0 : Nat) (l0 : List Int) (r : Bool) (w : World) (hr0 : Kd.C (Kd.int .i64) w A0 l0.length l0) (hc0 : l0.length ≤ c0) (h : spec_IsQuiddity.f k l0 = some r) :
  Calls Tryz.prog 52 #[.slice A0 l0.length c0] w fun e w' => e = .returned (.bool r) ∧ Below w.heap.size w w' := by
 have HR0 := Aside0.mk hr0; have HC0 := Aside0.mk hc0; clear hr0 hc0; have HB := Aside0.mk (Below.refl w.heap.size w); have H : ((spec_poOf.f k l0).bind fun bt599 => (some bt599.2)) = some r := h
 clear h; replace H := Option.bind_eq_some_iff.mp H; obtain ⟨⟨t599, t600⟩, A20, H⟩ := H; have A2 := Aside0.mk A20; clear A20; obtain rfl := Option.some.inj H
 go_enter Tryz.func52, Tryz.ntmps52
 go_wp2_with (first | ((with_reducible refine gate_callee (f := 65) rfl ?_); refine gl_ (some 7) Tryz.func65 #[.slice A0 l0.length c0] rfl ?_; (with_reducible refine (spec_poOf.calls k _ _ l0 t599 t600 _ ?side1 ?side2 A2.out).mono ?_); (case side1 => exact cc_ HR0.out); (case side2 => exact HC0.out); rintro e w3 ⟨v601, rfl, ho0, hb⟩; refine ⟨_, rfl, ?_⟩; have HO602 := Aside0.mk (Kd.R_lower ho0 (below_size (bl_ HB.out))); replace HB := Aside0.mk (below_step (bl_ HB.out) hb); (try clear hb); (try clear hb2); (try clear hk); (try clear hi); (try clear ho0)))
 go_ret
 exact ⟨by first | rfl | (simp [errW_none, errW_some] <;> rfl) | (simp [*, errW_none, errW_some] <;> rfl), bl_ HB.out⟩
mutual
def spec_EntryByContinuant.j0 : Nat → List Int → Int → Int → Int → Bool → Option (Int × Bool)
 | 0, _, _, _, _, _ => none
 | k + 1, x0, x1, x2, x8, x31 => if x31 = true then (some (0, false)) else (spec_EntryByContinuant.l0 k x0 x2 x8 ([] : List Int) (wrap64 (x1 + 1)))
def spec_EntryByContinuant.l0 : Nat → List Int → Int → Int → List Int → Int → Option (Int × Bool)
 | 0, _, _, _, _, _ => none
 | k + 1, x0, x2, x8, x9, x10 => if x10 < x2 then (if x8 = 0 then (none) else (if 0 ≤ (Int.tmod (wrap64 ((Int.tmod x10 x8) + x8)) x8) then (if (Int.tmod (wrap64 ((Int.tmod x10 x8) + x8)) x8) < (x0.length : Int) then (if x9.length < 17592186044416 then (spec_EntryByContinuant.l0 k x0 x2 x8 (x9 ++ [rd x0 (Int.tmod (wrap64 ((Int.tmod x10 x8) + x8)) x8)]) (wrap64 (x10 + 1))) else (none)) else (none)) else (none))) else ((spec_ctValue.f k x9 (-1)).bind fun t611 => (some (t611, true)))
end
def spec_EntryByContinuant.f (k : Nat) (l0 : List Int) (a1 : Int) (a2 : Int) : Option (Int × Bool) := (spec_IsQuiddity.f k l0).bind fun t603 => (if t603 = true then ((spec_l1In.f a1 (-1000) 1000).bind fun t604 => (if t604 = true then ((spec_l1Least.f (l0.length : Int) 11).bind fun t605 => ((spec_l1In.f a2 (wrap64 (a1 + 1)) (wrap64 (a1 + t605))).bind fun t606 => (spec_EntryByContinuant.j0 k l0 a1 a2 (l0.length : Int) (!t606)))) else (spec_EntryByContinuant.j0 k l0 a1 a2 (l0.length : Int) true))) else (spec_EntryByContinuant.j0 k l0 a1 a2 (l0.length : Int) true))
set_option maxHeartbeats 8000000 in
set_option maxRecDepth 100000 in
theorem spec_EntryByContinuant.calls (k : Nat) (A0 : Option Addr) (c0 : Nat) (l0 : List Int) (a1 : Int) (a2 : Int) (r1 : Int) (r2 : Bool) (w : World) (hr0 : Kd.C (Kd.int .i64) w A0 l0.length l0) (hc0 : l0.length ≤ c0) (h : spec_EntryByContinuant.f k l0 a1 a2 = some (r1, r2)) :
  Calls Tryz.prog 30 #[.slice A0 l0.length c0, .int .i64 a1, .int .i64 a2] w fun e w' => e = .returned (.tuple #[.int .i64 r1, .bool r2]) ∧ Below w.heap.size w w' := by
 have HR0 := Aside0.mk hr0; have HC0 := Aside0.mk hc0; clear hr0 hc0; have HB := Aside0.mk (Below.refl w.heap.size w); have H : ((spec_IsQuiddity.f k l0).bind fun t603 => (if t603 = true then ((spec_l1In.f a1 (-1000) 1000).bind fun t604 => (if t604 = true then ((spec_l1Least.f (l0.length : Int) 11).bind fun t605 => ((spec_l1In.f a2 (wrap64 (a1 + 1)) (wrap64 (a1 + t605))).bind fun t606 => (spec_EntryByContinuant.j0 k l0 a1 a2 (l0.length : Int) (!t606)))) else (spec_EntryByContinuant.j0 k l0 a1 a2 (l0.length : Int) true))) else (spec_EntryByContinuant.j0 k l0 a1 a2 (l0.length : Int) true))) = some (r1, r2) := h
 clear h; have HC4 := Aside0.mk H; clear H
 go_enter Tryz.func30, Tryz.ntmps30
 go_upto_region 2 with (fail)
 go_cut [31] (fun v31 wc => ∃ (kq : Nat) (x31_3 : Bool), v31 = .bool x31_3 ∧ Aside0 (spec_EntryByContinuant.j0 kq l0 a1 a2 (l0.length : Int) x31_3 = some (r1, r2)) ∧ Aside0 (kq ≤ k) ∧ Aside0 (Below w.heap.size w wc))
 case first =>
  have H := HC4.out; clear HC4; replace H := Option.bind_eq_some_iff.mp H; obtain ⟨t603, A50, H⟩ := H; have A5 := Aside0.mk A50; clear A50
  by_cases c6 : t603 = true
  ·subst c6
   rw [if_pos rfl] at H
   replace H := Option.bind_eq_some_iff.mp H; obtain ⟨t604, A70, H⟩ := H; have A7 := Aside0.mk A70; clear A70
   by_cases c8 : t604 = true
   ·subst c8
    rw [if_pos rfl] at H
    replace H := Option.bind_eq_some_iff.mp H; obtain ⟨t605, A90, H⟩ := H; have A9 := Aside0.mk A90; clear A90; replace H := Option.bind_eq_some_iff.mp H; obtain ⟨t606, A100, H⟩ := H; have A10 := Aside0.mk A100; clear A100; have H' := Aside0.mk H; clear H
    go_wp2_with (first | ((with_reducible refine gate_callee (f := 52) rfl ?_); refine gl_ (some 14) Tryz.func52 #[.slice A0 l0.length c0] rfl ?_; (with_reducible refine (spec_IsQuiddity.calls k _ _ l0 true _ ?side1 ?side2 A5.out).mono ?_); (case side1 => exact cc_ (Kd.C_below HR0.out HB.out)); (case side2 => exact HC0.out); rintro e w11 ⟨rfl, hb⟩; refine ⟨_, rfl, ?_⟩; replace HB := Aside0.mk (below_step (bl_ HB.out) hb); (try clear hb); (try clear hb2); (try clear hk); (try clear hi)) | (go_at_call 46; (with_reducible refine (spec_l1In.calls a1 (-1000) 1000 true _ A7.out).mono ?_); rintro e w' ⟨rfl, ⟨nd, rfl⟩⟩) | (go_at_call 53; (with_reducible refine (spec_l1Least.calls (l0.length : Int) 11 t605 _ A9.out).mono ?_); rintro e w' ⟨rfl, ⟨nd, rfl⟩⟩) | (go_at_call 46; (with_reducible refine (spec_l1In.calls a2 (wrap64 (a1 + 1)) (wrap64 (a1 + t605)) t606 _ A10.out).mono ?_); rintro e w' ⟨rfl, ⟨nd, rfl⟩⟩))
    go_meet
    case rel => exact ⟨_, (!t606), (fs_), H', ⟨by first | omega | exact Nat.le_refl _⟩, ⟨bl_ HB.out⟩⟩
   ·replace c8 := Bool.eq_false_iff.mpr c8
    subst c8; rw [if_neg (show ¬ (false = true) by decide)] at H
    have H' := Aside0.mk H; clear H
    go_wp2_with (first | ((with_reducible refine gate_callee (f := 52) rfl ?_); refine gl_ (some 14) Tryz.func52 #[.slice A0 l0.length c0] rfl ?_; (with_reducible refine (spec_IsQuiddity.calls k _ _ l0 true _ ?side1 ?side2 A5.out).mono ?_); (case side1 => exact cc_ (Kd.C_below HR0.out HB.out)); (case side2 => exact HC0.out); rintro e w12 ⟨rfl, hb⟩; refine ⟨_, rfl, ?_⟩; replace HB := Aside0.mk (below_step (bl_ HB.out) hb); (try clear hb); (try clear hb2); (try clear hk); (try clear hi)) | (go_at_call 46; (with_reducible refine (spec_l1In.calls a1 (-1000) 1000 false _ A7.out).mono ?_); rintro e w' ⟨rfl, ⟨nd, rfl⟩⟩))
    go_meet
    case rel => exact ⟨_, (true), (fs_), H', ⟨by first | omega | exact Nat.le_refl _⟩, ⟨bl_ HB.out⟩⟩
  ·replace c6 := Bool.eq_false_iff.mpr c6
   subst c6; rw [if_neg (show ¬ (false = true) by decide)] at H
   have H' := Aside0.mk H; clear H
   go_wp2_with (first | ((with_reducible refine gate_callee (f := 52) rfl ?_); refine gl_ (some 14) Tryz.func52 #[.slice A0 l0.length c0] rfl ?_; (with_reducible refine (spec_IsQuiddity.calls k _ _ l0 false _ ?side1 ?side2 A5.out).mono ?_); (case side1 => exact cc_ (Kd.C_below HR0.out HB.out)); (case side2 => exact HC0.out); rintro e w13 ⟨rfl, hb⟩; refine ⟨_, rfl, ?_⟩; replace HB := Aside0.mk (below_step (bl_ HB.out) hb); (try clear hb); (try clear hb2); (try clear hk); (try clear hi)))
   go_meet
   case rel => exact ⟨_, (true), (fs_), H', ⟨by first | omega | exact Nat.le_refl _⟩, ⟨bl_ HB.out⟩⟩
 case rest =>
  clear HC4
  try clear p2
  try clear c3
  try clear c5
  try clear c6
  try clear p6
  try clear c8
  obtain ⟨kq, x31_3, rfl, HA, HJ3, HB⟩ := hcut
  cases kq with
  | zero => exact absurd HA.out (by simp [spec_EntryByContinuant.j0])
  | succ kj3 =>
   have H := HA.out; clear HA
   simp only [spec_EntryByContinuant.j0] at H
   by_cases c14 : x31_3 = true
   ·subst c14
    rw [if_pos rfl] at H
    simp only [Option.some.injEq, Prod.mk.injEq] at H
    obtain ⟨rfl, rfl⟩ := H
    go_wp2
    go_ret2
    exact ⟨by first | rfl | (simp [errW_none, errW_some] <;> rfl) | (simp [*, errW_none, errW_some] <;> rfl), bl_ HB.out⟩
   ·replace c14 := Bool.eq_false_iff.mpr c14
    subst c14; rw [if_neg (show ¬ (false = true) by decide)] at H
    have H' := Aside0.mk H; clear H
    go_wp2
    go_loopg [9, 10] kj3 (fun kq v9 v10 w' => ∃ (x9_2 : List Int) (x10_2 : Int), v10 = .int .i64 x10_2 ∧ Aside0 (spec_EntryByContinuant.l0 kq l0 a2 (l0.length : Int) x9_2 x10_2 = some (r1, r2)) ∧ Aside0 (kq ≤ kj3) ∧ Aside0 (Kd.R (Kd.int .i64) 3 w' w.heap.size (fun _ => True) v9 x9_2) ∧ Aside0 (Below w.heap.size w w'))
    case atStart => exact ⟨(([] : List Int)), (wrap64 (a1 + 1)), (fs_), H', ⟨Nat.le_refl _⟩, ⟨by first | exact Kd.R_nil _ _ _ _ _ | exact Kd.N_nil _ _ _ _ _ | exact Kd.V_nil _ _ _ _ _ | exact Kd.Q_nil _ _ _ _ _ | exact Kd.S_nil _ _ _ _ _⟩, ⟨bl_ HB.out⟩⟩
    case round =>
     clear H'
     try clear c1
     try clear p2
     try clear c3
     try clear c5
     try clear c6
     try clear p6
     try clear c8
     try clear c14
     try clear p2
     try clear p6
     obtain ⟨x9_2, x10_2, rfl, HA, HK2, HO_9, HB⟩ := hrel
     cases gk with
     | zero => exact absurd HA.out (by simp [spec_EntryByContinuant.l0])
     | succ k2 =>
      have H := HA.out; clear HA
      simp only [spec_EntryByContinuant.l0] at H
      by_cases c15 : x10_2 < a2
      ·rw [if_pos c15] at H
       have c15b0 : decide (x10_2 < a2) = true := decide_eq_true c15; clear c15
       by_cases c16 : (l0.length : Int) = 0
       ·rw [if_pos c16] at H
        exact absurd H (by simp)
       ·rw [if_neg c16] at H
        have c16b0 : ((l0.length : Int) == 0) = false := beq_eq_false_iff_ne.mpr c16; have c16b1 : ((l0.length : Int) != 0) = true := bne_iff_ne.mpr c16; have c16b2 : ¬ (l0 = []) := fun h_ => c16 (by rw [h_]; rfl)
        obtain ⟨ji17, hji17⟩ : ∃ j_ : Int, (Int.tmod (wrap64 ((Int.tmod x10_2 (l0.length : Int)) + (l0.length : Int))) (l0.length : Int)) = j_ := ⟨_, rfl⟩; replace H : (if 0 ≤ (ji17) then (if (ji17) < (l0.length : Int) then (if x9_2.length < 17592186044416 then (spec_EntryByContinuant.l0 k2 l0 a2 (l0.length : Int) (x9_2 ++ [rd l0 (ji17)]) (wrap64 (x10_2 + 1))) else (none)) else (none)) else (none)) = some (r1, r2) := by first | (rw [hji17] at H; exact H) | (simp only [hji17] at H ⊢; exact H)
        by_cases c18 : 0 ≤ (ji17)
        ·rw [if_pos c18] at H
         have c18b0 : decide (0 ≤ (ji17)) = true := decide_eq_true c18; clear c18
         by_cases c19 : (ji17) < (l0.length : Int)
         ·rw [if_pos c19] at H
          have c19b0 : decide ((ji17) < (l0.length : Int)) = true := decide_eq_true c19; clear c19
          by_cases c20 : x9_2.length < 17592186044416
          ·rw [if_pos c20] at H
           have LMc20 := Aside0.mk c20; clear c20; obtain ⟨y608, hy608⟩ : ∃ y_ : List Int, y_ = (x9_2 ++ [rd l0 (ji17)]) := ⟨_, rfl⟩; replace H : (spec_EntryByContinuant.l0 k2 l0 a2 (l0.length : Int) y608 (wrap64 (x10_2 + 1))) = some (r1, r2) := rh_ hy608 H; have Ny608 := Aside0.mk hy608; clear hy608; have H' := Aside0.mk H; clear H; have p607 : 0 ≤ ((ji17) : Int) := of_decide_eq_true as_; have q607 : (ji17) < (l0.length : Int) := of_decide_eq_true as_; obtain ⟨ad607, e607, hx607_0⟩ := Kd.at_int HR0.out (ji17) p607 q607
           cases e607
           replace hx607_0 := (HB.out.cell (World.block_lt_of_cell? w _ hx607_0)).trans hx607_0; replace p607 := eq_true p607; replace q607 := eq_true q607
           go_wp2_with (first | ((with_reducible refine gate_builtin (b := .append) (xs := #[.tmp 39, .tmp 50]) rfl ?_); at_builtin; refine Kd.R_append (Kd.int .i64) (w0 := w) w.heap.size rfl (.tmp 39) (.tmp 50) 24 3 (.int .i64 0) 8 rfl Tryz.underlying24 info3 rfl (by decide) (by omega) u9 x9_2 (rd l0 (ji17)) [.int .i64 (rd l0 (ji17))] (fun _ => True) (fun _ => False) rfl rfl ?aP (fun _ hk => hk.elim) ?aF ?aO ?aB ?aS ?aL ?_; (case aP => exact rfl); (case aB => exact (bl_ HB.out)); (case aF => exact (fun _ _ => trivial)); (case aO => exact (kr_ HO_9.out)); (case aS => exact (below_size (bl_ HB.out))); (case aL => have := LMc20.out; omega); intro v609 w21 ho hb hg hat; rw [← Ny608.out] at ho; replace HB := Aside0.mk (hb); have HO610 := Aside0.mk (ho); clear HO_9 ho hb hg hat))
           go_roundg k2
           case measure => have := HJ3.out; have := HK2.out; omega
           case rel => exact ⟨(y608), (wrap64 (x10_2 + 1)), (fs_), H', ⟨by have := HJ3.out; have := HK2.out; omega⟩, ⟨kr_ HO610.out⟩, ⟨bl_ HB.out⟩⟩
          ·rw [if_neg c20] at H
           exact absurd H (by simp)
         ·rw [if_neg c19] at H
          exact absurd H (by simp)
        ·rw [if_neg c18] at H
         exact absurd H (by simp)
      ·rw [if_neg c15] at H
       have c15b0 : decide (x10_2 < a2) = false := decide_eq_false c15; clear c15; replace H := Option.bind_eq_some_iff.mp H; obtain ⟨t611, A220, H⟩ := H; have A22 := Aside0.mk A220; clear A220
       simp only [Option.some.injEq, Prod.mk.injEq] at H
       obtain ⟨rfl, rfl⟩ := H; obtain ⟨Ao23, co23, eo23⟩ := Kd.R_slice HO_9.out; subst eo23
       go_wp2_with (first | ((with_reducible refine gate_callee (f := 37) rfl ?_); refine gl_ (some 53) Tryz.func37 #[.slice Ao23 x9_2.length co23, .int .i64 (-1)] rfl ?_; (with_reducible refine (spec_ctValue.calls k2 _ _ x9_2 (-1) t611 _ ?side1 ?side2 A22.out).mono ?_); (case side1 => exact cc_ (Kd.R_reads' HO_9.out).2.2); (case side2 => exact (Kd.R_reads' HO_9.out).2.1); rintro e w' ⟨rfl, ⟨nd, rfl⟩⟩; refine ⟨_, rfl, ?_⟩))
       go_ret2
       exact ⟨by first | rfl | (simp [errW_none, errW_some] <;> rfl) | (simp [*, errW_none, errW_some] <;> rfl), bl_ HB.out⟩
end Go.Proofs.YtcfcnnnkpdhecaaGreat.PFnContinuantsSplit
