-- Written for this claim by a program of this session (wip/tools/xprint.py over the kit's printer, wip/tools/shrink.py).
import Derived.Test.YtmpmmhmnjdkgcaaDoorPFnExactFriezeTextx0
import Derived.Test.YtmpmmhmnjdkgcaaDoorPFnExactFriezeTextx1
import Derived.Test.YtmpmmhmnjdkgcaaDoorPFnExactFriezeTextx4
namespace Go.Proofs.YtmpmmhmnjdkgcaaDoor.PFnExactFriezeText
open Go.RowKit Go.Proofs.YtmpmmhmnjdkgcaaDoorW.PrintWords Go.Proofs.YtmpmmhmnjdkgcaaDoorW.PrintLast Go.Proofs.YtmpmmhmnjdkgcaaDoorW.PrintMore
attribute [local go_sem] max2_int min2_int max_two min_two max_three min_three max_four min_four   -- for this text's walks alone
set_option linter.unusedVariables false
set_option linter.unusedSimpArgs false
mutual
def spec_frRead.j0 : Nat → List (List Int) → Bool → Option (List Int × Bool)
 | 0, _, _ => none
 | k + 1, x0, x21 => if x21 = true then (some (([] : List Int), false)) else (if 0 < (x0.length : Int) then (if 0 ≤ (wrap64 (((rd_L1 x0 0).length : Int) - 1)) then (if (wrap64 (((rd_L1 x0 0).length : Int) - 1)) < ((rd_L1 x0 0).length : Int) then ((some (([rd (rd_L1 x0 0) (wrap64 (((rd_L1 x0 0).length : Int) - 1))] : List Int) : List Int)).bind fun y239 => (if (wrap64 (((rd_L1 x0 0).length : Int) - 1)) ≤ ((rd_L1 x0 0).length : Int) then (if y239.length + ((rd_L1 x0 0).take ((wrap64 (((rd_L1 x0 0).length : Int) - 1)) : Int).toNat).length < 17592186044416 then ((some (y239 ++ ((rd_L1 x0 0).take ((wrap64 (((rd_L1 x0 0).length : Int) - 1)) : Int).toNat) : List Int)).bind fun y244 => (if (x0.length : Int) = (wrap64 (((rd_L1 x0 0).length : Int) - 3)) then ((spec_IsQuiddity.f k y244).bind fun t247 => (spec_frRead.j1 k x0 ((rd_L1 x0 0).length : Int) y244 (!t247))) else (spec_frRead.j1 k x0 ((rd_L1 x0 0).length : Int) y244 true))) else (none)) else (none))) else (none)) else (none)) else (none))
def spec_frRead.j1 : Nat → List (List Int) → Int → List Int → Bool → Option (List Int × Bool)
 | 0, _, _, _, _ => none
 | k + 1, x0, x4, x5, x50 => if x50 = true then (some (([] : List Int), false)) else (spec_frRead.l0 k x4 x5 x0 (x0.length : Int) 0)
def spec_frRead.l0 : Nat → Int → List Int → List (List Int) → Int → Int → Option (List Int × Bool)
 | 0, _, _, _, _, _ => none
 | k + 1, x4, x5, x51, x52, x53 => if x53 < x52 then (if 0 ≤ x53 then (if x53 < (x51.length : Int) then ((spec_frRow.f k x5 (wrap64 (x53 + 1))).bind fun t249 => (if ((rd_L1 x51 x53).length : Int) = x4 then (spec_frRead.l1 k x4 x5 t249 x51 x52 x53 (rd_L1 x51 x53) ((rd_L1 x51 x53).length : Int) 0) else (some (([] : List Int), false)))) else (none)) else (none)) else (some (x5, true))
def spec_frRead.l1 : Nat → Int → List Int → List Int → List (List Int) → Int → Int → List Int → Int → Int → Option (List Int × Bool)
 | 0, _, _, _, _, _, _, _, _, _ => none
 | k + 1, x4, x5, x8, x51, x52, x53, x66, x67, x68 => if x68 < x67 then (if 0 ≤ x68 then (if x68 < (x66.length : Int) then (if x68 < (x8.length : Int) then (if (rd x66 x68) = (rd x8 x68) then (spec_frRead.l1 k x4 x5 x8 x51 x52 x53 x66 x67 (wrap64 (x68 + 1))) else (some (([] : List Int), false))) else (none)) else (none)) else (none)) else (spec_frRead.l0 k x4 x5 x51 x52 (wrap64 (x53 + 1)))
end
def spec_frRead.f (k : Nat) (l0 : List (List Int)) : Option (List Int × Bool) := if (l0.length : Int) = 0 then (spec_frRead.j0 k l0 true) else (if 0 < (l0.length : Int) then ((spec_l1In.f ((rd_L1 l0 0).length : Int) 4 12).bind fun t235 => (spec_frRead.j0 k l0 (!t235))) else (none))
def spec_frRead.T4 : Bool × List (List Nat × List Nat) := (true, [([], []), ([0], [0]), ([1], [1]), ([], []), ([3], [3]), ([2, 4], [2, 4]), ([5], [5]), ([6], [6]), ([], []), ([8], [8]), ([9], [9]), ([], []), ([11], [11]), ([10, 12], [10, 12]), ([7, 13], [7, 13]), ([14, 14, 0, 1, 2, 3, 4, 5, 6, 7, 8, 9, 10, 11, 12, 13, 14], [14])])
def spec_frRead.B4 : List Nat := [0, 1, 3, 0, 8, 31, 63, 127, 0, 256, 768, 0, 2048, 7936, 16383, 32767]
theorem spec_frRead.tab4 : rtab .any (opsOf Tryd.f10 4) = spec_frRead.T4 := by kernel_rfl
theorem spec_frRead.bits4 : waitsOk spec_frRead.T4.2 spec_frRead.B4 = true := by kernel_rfl
set_option maxHeartbeats 8000000 in
set_option maxRecDepth 100000 in
theorem spec_frRead.calls (k : Nat) (A0 : Option Addr) (c0 : Nat) (l0 : List (List Int)) (r1 : List Int) (r2 : Bool) (w : World) (hr0 : Kd.C (Kd.slice 3 (Kd.int .i64)) w A0 l0.length l0) (hc0 : l0.length ≤ c0) (h : spec_frRead.f k l0 = some (r1, r2)) :
  Calls Tryd.prog 10 #[.slice A0 l0.length c0] w fun e w' => ∃ v0_ : Value, e = .returned (.tuple #[v0_, .bool r2]) ∧ Kd.R (Kd.int .i64) 3 w' w.heap.size (fun _ => True) v0_ r1 ∧ Below w.heap.size w w' := by
 have HR0 := Aside0.mk hr0; have HC0 := Aside0.mk hc0; clear hr0 hc0; have HB := Aside0.mk (Below.refl w.heap.size w); have H : (if (l0.length : Int) = 0 then (spec_frRead.j0 k l0 true) else (if 0 < (l0.length : Int) then ((spec_l1In.f ((rd_L1 l0 0).length : Int) 4 12).bind fun t235 => (spec_frRead.j0 k l0 (!t235))) else (none))) = some (r1, r2) := h
 clear h; have HC2 := Aside0.mk H; clear H
 go_enter Tryd.func10, Tryd.ntmps10
 go_upto_region 1 with (fail)
 go_cut [21] (fun v21 wc => ∃ (kq : Nat) (x21_1 : Bool), v21 = .bool x21_1 ∧ Aside0 (spec_frRead.j0 kq l0 x21_1 = some (r1, r2)) ∧ Aside0 (kq ≤ k) ∧ Aside0 (Below w.heap.size w wc))
 case first =>
  have H := HC2.out; clear HC2
  by_cases c3 : (l0.length : Int) = 0
  ·rw [if_pos c3] at H
   have c3b0 : ((l0.length : Int) == 0) = true := beq_iff_eq.mpr c3; have c3b1 : ((l0.length : Int) != 0) = false := bne_eq_false_iff_eq.mpr c3; clear c3
   (first | rw [c3b0] | (simp only [i64_w, i32_w]; rw [c3b0]) | skip)
   have H' := Aside0.mk H; clear H
   go_wp2
   go_meet
   case rel => exact ⟨_, (true), (fs_), H', ⟨by first | omega | exact Nat.le_refl _⟩, ⟨bl_ HB.out⟩⟩
  ·rw [if_neg c3] at H
   have c3b0 : ((l0.length : Int) == 0) = false := beq_eq_false_iff_ne.mpr c3; have c3b1 : ((l0.length : Int) != 0) = true := bne_iff_ne.mpr c3; have c3b2 : ¬ (l0 = []) := fun h_ => c3 (by rw [h_]; rfl)
   (first | rw [c3b0] | (simp only [i64_w, i32_w]; rw [c3b0]) | skip)
   by_cases c4 : 0 < (l0.length : Int)
   ·rw [if_pos c4] at H
    have c4b0 : decide (0 < (l0.length : Int)) = true := decide_eq_true c4; have c4b1 : decide (0 < l0.length) = true := decide_eq_true (by omega)
    clear c4; replace H := Option.bind_eq_some_iff.mp H; obtain ⟨t235, A50, H⟩ := H; replace H : (spec_frRead.j0 k l0 (!t235)) = some (r1, r2) := H; have A5 := Aside0.mk A50; clear A50; have H' := Aside0.mk H; clear H; have p234 : 0 ≤ (0 : Int) := (by omega)
    have q234 : 0 < (l0.length : Int) := of_decide_eq_true as_; obtain ⟨ad234, A234_0, c234_0, e234, hx234_0, hl234_0, hi234_0⟩ := at_L1 HR0.out 0 p234 q234
    cases e234
    have qi234 : (0 < l0.length) = True := eq_true (by omega)
    (try rw [show ((0 : Int)).toNat = 0 from rfl] at hx234_0)
    (try rw [Addr.add_zero'] at hx234_0)
    replace hx234_0 := (HB.out.cell (World.block_lt_of_cell? w _ hx234_0)).trans hx234_0; have HR234_0 := Aside0.mk hi234_0; have HC234_0 := Aside0.mk hl234_0; clear hi234_0 hl234_0; replace p234 := eq_true p234; replace q234 := eq_true q234
    go_wp2_with (first | (go_at_call 17; (with_reducible refine (spec_l1In.calls ((rd_L1 l0 0).length : Int) 4 12 t235 _ A5.out).mono ?_); rintro e w' ⟨rfl, ⟨nd, rfl⟩⟩))
    go_meet
    case rel => exact ⟨_, (!t235), (fs_), H', ⟨by first | omega | exact Nat.le_refl _⟩, ⟨bl_ HB.out⟩⟩
   ·rw [if_neg c4] at H
    exact absurd H (by simp)
 case rest =>
  clear HC2
  try clear c1
  try clear c2
  try clear p2
  try clear q2
  try clear hx2
  try clear qi2
  try clear c3
  try clear c3b0
  try clear c3b1
  try clear c3b2
  try clear c4
  try clear c4b0
  try clear c4b1
  try clear hx234_0
  try clear p234
  try clear q234
  obtain ⟨kq, x21_1, rfl, HA, HJ1, HB⟩ := hcut
  cases kq with
  | zero => exact absurd HA.out (by simp [spec_frRead.j0])
  | succ kj1 =>
   have H := HA.out; clear HA
   simp only [spec_frRead.j0] at H
   by_cases c6 : x21_1 = true
   ·subst c6
    have H1 : (some (([] : List Int), false)) = some (r1, r2) := by rw [if_pos rfl] at H; exact H
    clear H; have H := H1; clear H1
    simp only [Option.some.injEq, Prod.mk.injEq] at H
    obtain ⟨rfl, rfl⟩ := H
    go_wp2
    go_ret2
    exact ⟨_, by first | rfl | (simp [errW_none, errW_some] <;> rfl) | (simp [*, errW_none, errW_some] <;> rfl), by first | exact Kd.R_nil _ _ _ _ _ | exact Kd.N_nil _ _ _ _ _ | exact Kd.V_nil _ _ _ _ _ | exact Kd.Q_nil _ _ _ _ _ | exact Kd.S_nil _ _ _ _ _, bl_ HB.out⟩
   ·replace c6 := Bool.eq_false_iff.mpr c6
    subst c6; have H1 : (if 0 < (l0.length : Int) then (if 0 ≤ (wrap64 (((rd_L1 l0 0).length : Int) - 1)) then (if (wrap64 (((rd_L1 l0 0).length : Int) - 1)) < ((rd_L1 l0 0).length : Int) then ((some (([rd (rd_L1 l0 0) (wrap64 (((rd_L1 l0 0).length : Int) - 1))] : List Int) : List Int)).bind fun y239 => (if (wrap64 (((rd_L1 l0 0).length : Int) - 1)) ≤ ((rd_L1 l0 0).length : Int) then (if y239.length + ((rd_L1 l0 0).take ((wrap64 (((rd_L1 l0 0).length : Int) - 1)) : Int).toNat).length < 17592186044416 then ((some (y239 ++ ((rd_L1 l0 0).take ((wrap64 (((rd_L1 l0 0).length : Int) - 1)) : Int).toNat) : List Int)).bind fun y244 => (if (l0.length : Int) = (wrap64 (((rd_L1 l0 0).length : Int) - 3)) then ((spec_IsQuiddity.f kj1 y244).bind fun t247 => (spec_frRead.j1 kj1 l0 ((rd_L1 l0 0).length : Int) y244 (!t247))) else (spec_frRead.j1 kj1 l0 ((rd_L1 l0 0).length : Int) y244 true))) else (none)) else (none))) else (none)) else (none)) else (none)) = some (r1, r2) := by rw [if_neg (show ¬ (false = true) by decide)] at H; exact H
    clear H; have H := H1; clear H1
    by_cases c7 : 0 < (l0.length : Int)
    ·rw [if_pos c7] at H
     have c7b0 : decide (0 < (l0.length : Int)) = true := decide_eq_true c7; have c7b1 : decide (0 < l0.length) = true := decide_eq_true (by omega)
     clear c7; obtain ⟨ji8, hji8⟩ : ∃ j_ : Int, (wrap64 (((rd_L1 l0 0).length : Int) - 1)) = j_ := ⟨_, rfl⟩; replace H : (if 0 ≤ (ji8) then (if (ji8) < ((rd_L1 l0 0).length : Int) then ((some (([rd (rd_L1 l0 0) (ji8)] : List Int) : List Int)).bind fun y239 => (if (ji8) ≤ ((rd_L1 l0 0).length : Int) then (if y239.length + ((rd_L1 l0 0).take ((ji8) : Int).toNat).length < 17592186044416 then ((some (y239 ++ ((rd_L1 l0 0).take ((ji8) : Int).toNat) : List Int)).bind fun y244 => (if (l0.length : Int) = (wrap64 (((rd_L1 l0 0).length : Int) - 3)) then ((spec_IsQuiddity.f kj1 y244).bind fun t247 => (spec_frRead.j1 kj1 l0 ((rd_L1 l0 0).length : Int) y244 (!t247))) else (spec_frRead.j1 kj1 l0 ((rd_L1 l0 0).length : Int) y244 true))) else (none)) else (none))) else (none)) else (none)) = some (r1, r2) := by first | (rw [hji8] at H; exact H) | (simp only [hji8] at H ⊢; exact H)
     have hji8w : (IntKind.i64.wrap (((rd_L1 l0 0).length : Int) - 1)) = ji8 := (i64_w _).trans hji8
     by_cases c9 : 0 ≤ (ji8)
     ·rw [if_pos c9] at H
      have c9b0 : decide (0 ≤ (ji8)) = true := decide_eq_true c9; clear c9
      by_cases c10 : (ji8) < ((rd_L1 l0 0).length : Int)
      ·rw [if_pos c10] at H
       have c10b0 : decide ((ji8) < ((rd_L1 l0 0).length : Int)) = true := decide_eq_true c10; clear c10; obtain ⟨y239, hy239⟩ : ∃ y_ : List Int, y_ = (([rd (rd_L1 l0 0) (ji8)] : List Int)) := ⟨_, rfl⟩; replace H : (if (ji8) ≤ ((rd_L1 l0 0).length : Int) then (if y239.length + ((rd_L1 l0 0).take ((ji8) : Int).toNat).length < 17592186044416 then ((some (y239 ++ ((rd_L1 l0 0).take ((ji8) : Int).toNat) : List Int)).bind fun y244 => (if (l0.length : Int) = (wrap64 (((rd_L1 l0 0).length : Int) - 3)) then ((spec_IsQuiddity.f kj1 y244).bind fun t247 => (spec_frRead.j1 kj1 l0 ((rd_L1 l0 0).length : Int) y244 (!t247))) else (spec_frRead.j1 kj1 l0 ((rd_L1 l0 0).length : Int) y244 true))) else (none)) else (none)) = some (r1, r2) := rh_ hy239 H
       have Ny239 := Aside0.mk hy239; clear hy239; have c11b0 := eq_true (of_decide_eq_true as_ : 0 ≤ (ji8))
       by_cases c12 : (ji8) ≤ ((rd_L1 l0 0).length : Int)
       ·rw [if_pos c12] at H
        have c12b0 := eq_true c12; have c12b1 : decide ((ji8) ≤ ((rd_L1 l0 0).length : Int)) = true := decide_eq_true c12; clear c12
        by_cases c13 : y239.length + ((rd_L1 l0 0).take ((ji8) : Int).toNat).length < 17592186044416
        ·rw [if_pos c13] at H
         have LMc13 := Aside0.mk c13; clear c13; obtain ⟨y244, hy244⟩ : ∃ y_ : List Int, y_ = (y239 ++ ((rd_L1 l0 0).take ((ji8) : Int).toNat)) := ⟨_, rfl⟩; replace H : (if (l0.length : Int) = (wrap64 (((rd_L1 l0 0).length : Int) - 3)) then ((spec_IsQuiddity.f kj1 y244).bind fun t247 => (spec_frRead.j1 kj1 l0 ((rd_L1 l0 0).length : Int) y244 (!t247))) else (spec_frRead.j1 kj1 l0 ((rd_L1 l0 0).length : Int) y244 true)) = some (r1, r2) := rh_ hy244 H
         have Ny244 := Aside0.mk hy244; clear hy244; have HC14 := Aside0.mk H; clear H; have p236 : 0 ≤ (0 : Int) := (by omega)
         have q236 : 0 < (l0.length : Int) := of_decide_eq_true as_; obtain ⟨ad236, A236_0, c236_0, e236, hx236_0, hl236_0, hi236_0⟩ := at_L1 HR0.out 0 p236 q236
         cases e236
         have qi236 : (0 < l0.length) = True := eq_true (by omega)
         (try rw [show ((0 : Int)).toNat = 0 from rfl] at hx236_0)
         (try rw [Addr.add_zero'] at hx236_0)
         replace hx236_0 := (HB.out.cell (World.block_lt_of_cell? w _ hx236_0)).trans hx236_0; have HR236_0 := Aside0.mk hi236_0; have HC236_0 := Aside0.mk hl236_0; clear hi236_0 hl236_0; replace p236 := eq_true p236; replace q236 := eq_true q236
         try go_wp2
         have n0_ := Aside0.mk (below_drew1 HB.out); clear HB; have HB := n0_; clear n0_; have p237 : 0 ≤ (0 : Int) := (by omega)
         have q237 : 0 < (l0.length : Int) := of_decide_eq_true as_; obtain ⟨ad237, A237_0, c237_0, e237, hx237_0, hl237_0, hi237_0⟩ := at_L1 HR0.out 0 p237 q237; have hw237_0 := hx237_0
         (try rw [show ((0 : Int)).toNat = 0 from rfl] at hw237_0)
         (try rw [show 0 * 1 = 0 from rfl] at hw237_0)
         (try rw [Addr.add_zero'] at hw237_0)
         obtain rfl : ad236 = ad237 := (by injection e237)
         have qi237 : (0 < l0.length) = True := eq_true (by omega)
         (try rw [show ((0 : Int)).toNat = 0 from rfl] at hx237_0)
         (try rw [Addr.add_zero'] at hx237_0)
         replace hx237_0 := (HB.out.cell (World.block_lt_of_cell? w _ hx237_0)).trans hx237_0; have HR237_0 := Aside0.mk hi237_0; have HC237_0 := Aside0.mk hl237_0; clear hi237_0 hl237_0; replace p237 := eq_true p237; replace q237 := eq_true q237; have p238 : 0 ≤ ((ji8) : Int) := of_decide_eq_true as_; have q238 : (ji8) < ((rd_L1 l0 0).length : Int) := of_decide_eq_true as_; obtain ⟨ad238, e238, hx238_0⟩ := Kd.at_int HR237_0.out (ji8) p238 q238; have hw238_0 := hx238_0
         cases e238
         replace hx238_0 := (HB.out.cell (World.block_lt_of_cell? w _ hx238_0)).trans hx238_0; replace p238 := eq_true p238; replace q238 := eq_true q238; have p242 : 0 ≤ (0 : Int) := (by omega)
         have q242 : 0 < (l0.length : Int) := of_decide_eq_true as_; obtain ⟨ad242, A242_0, c242_0, e242, hx242_0, hl242_0, hi242_0⟩ := at_L1 HR0.out 0 p242 q242; have hw242_0 := hx242_0
         (try rw [show ((0 : Int)).toNat = 0 from rfl] at hw242_0)
         (try rw [show 0 * 1 = 0 from rfl] at hw242_0)
         (try rw [Addr.add_zero'] at hw242_0)
         obtain rfl : ad236 = ad242 := (by injection e242)
         have qi242 : (0 < l0.length) = True := eq_true (by omega)
         (try rw [show ((0 : Int)).toNat = 0 from rfl] at hx242_0)
         (try rw [Addr.add_zero'] at hx242_0)
         replace hx242_0 := (HB.out.cell (World.block_lt_of_cell? w _ hx242_0)).trans hx242_0; have HR242_0 := Aside0.mk hi242_0; have HC242_0 := Aside0.mk hl242_0; clear hi242_0 hl242_0; replace p242 := eq_true p242; replace q242 := eq_true q242; have ea_ := Option.some.inj (hx237_0.symm.trans hx242_0)
         injection ea_ with ea_ en_ ec_
         subst ea_; subst ec_; clear en_; obtain ⟨i016, hi016, _, hsz16, _⟩ := info_parts info3; obtain ⟨hcut16, hA16, hC16⟩ := print_take_of (P := Tryd.prog) (Value.int .i64) 0 30 3 .i64 Tryd.underlying30 hi016 hsz16 (some ad238) c237_0 (rd_L1 l0 0) (ji8) (of_decide_eq_true as_) (of_decide_eq_true as_) HC242_0.out; have HR243 := Aside0.mk (Kd.C_of_reads (h1 := fun _ => rfl) (hA16 _ (Kd.reads_of_C HR242_0.out)))
         have HC243 := Aside0.mk hC16; clear hA16 hC16 hi016 hsz16; refine start_ (n := 16) (S := fun w' => w'.cell? ad236 = some (.slice (some ad238) (rd_L1 l0 0).length c237_0) ∧ w'.cell? (ad238.add ((ji8)).toNat) = some (.int .i64 (rd (rd_L1 l0 0) (ji8))) ∧ w'.cell? ad236 = some (.slice (some ad238) (rd_L1 l0 0).length c237_0)) (ds := []) #[false, false, false, false, false, false, false, false, false, false, false, false, false, false, false, false] (by kernel_rfl) rfl rfl ⟨((HB.out.cell (World.block_lt_of_cell? w _ hw237_0)).trans hw237_0), ((HB.out.cell (World.block_lt_of_cell? w _ hw238_0)).trans hw238_0), ((HB.out.cell (World.block_lt_of_cell? w _ hw242_0)).trans hw242_0)⟩ (fun hHeld => ?_); refine with_tabW spec_frRead.tab4 spec_frRead.bits4 (fun HT_ HW_ => ?_)
         generalize wc.drew = w15 at HB HR237_0 HR242_0 HR243 hx237_0 hx238_0 hx242_0 hHeld ⊢
         refine pa_ 0 (some 26) rfl rfl HT_ ?_; refine pa_ 1 (some 27) rfl rfl HT_ ?_; refine pa_ 3 (some 29) rfl rfl HT_ ?_; refine pa_ 4 (some 30) rfl rfl HT_ ?_; refine pa_ 8 (some 34) rfl rfl HT_ ?_; refine pa_ 9 (some 35) rfl rfl HT_ ?_; refine pa_ 11 (some 37) rfl rfl HT_ ?_; refine pa_ 12 (some 38) rfl rfl HT_ ?_; refine ta2_ 2 (some 28) rfl rfl HT_ HW_ hHeld ?_; refine pa_ 5 (some 31) rfl rfl HT_ ?_; refine ta2_ 6 (some 32) rfl rfl HT_ HW_ hHeld ?_; refine ta2_ 10 (some 36) rfl rfl HT_ HW_ hHeld ?_; refine pa_ 13 (some 39) rfl rfl HT_ ?_; refine one_ (i := 7) (N := some 33) #[true, true, true, true, true, true, true, true, true, true, true, true, true, true, false, false] rfl rfl (one_of HT_.out (by kernel_rfl)) (by decide) (fun K hK => ?_)
         refine Kd.R_lit_step (Kd.int .i64) _ 3 ?hg (N := 33) ?hd (xs := ([rd (rd_L1 l0 0) (ji8)] : List Int)) (inner := [.int .i64 (rd (rd_L1 l0 0) (ji8))]) (ok := fun _ => True) (okp := fun _ => True) ?hr ?hp (fun _ hk => hk) trivial (Below.refl _ _) (Nat.le_refl _) (by simp) ?_; (case hd => rfl); (case hg => rfl); (case hr => first | (go_simp; done) | (go_simp; rfl)); (case hp => exact (Reps.one (show Kd.M (Kd.int .i64) _ _ _ (rd (rd_L1 l0 0) (ji8)) [.int .i64 (rd (rd_L1 l0 0) (ji8))] from rfl) (Reps.none _ _)))
         intro v240 w17 ho18 hb hg_ hnew_; clear hg_ hnew_
         (first | rw [← Ny239.out] at ho18 | (simp only [Int.reduceToNat] at ho18; rw [← Ny239.out] at ho18))
         have n0_ := Aside0.mk (Kd.R_lower ho18 (below_size (bl_ HB.out))); have n1_ := Aside0.mk (below_step (bl_ HB.out) hb); clear HB; have HO241 := n0_; have HB := n1_; clear n0_ n1_; clear hb ho18; refine hK.out _ _ ⟨((HB.out.cell (World.block_lt_of_cell? w _ hw237_0)).trans hw237_0), ((HB.out.cell (World.block_lt_of_cell? w _ hw238_0)).trans hw238_0), ((HB.out.cell (World.block_lt_of_cell? w _ hw242_0)).trans hw242_0)⟩ (fun hHeld => ?_)
         clear hK K; refine na_ (some 33) ?_; refine one_ (i := 14) (N := some 40) #[true, true, true, true, true, true, true, true, true, true, true, true, true, true, true, false] rfl rfl (one_of HT_.out (by kernel_rfl)) (by decide) (fun K hK => ?_)
         refine Kd.R_append_rows_step (Kd.int .i64) (w0 := w) w.heap.size (by rfl) (.tmp 33) (.tmp 39) 30 3 (.int .i64 0) 8 rfl Tryd.underlying30 info3 rfl (by decide) (by omega) v240 y239 ((rd_L1 l0 0).take ((ji8) : Int).toNat) _ _ _ (fun _ => True) (fun _ => False) rfl rfl ?aO ?aR (fun _ _ h => h) (fun _ h => h.elim) ?aF ?aB ?aS ?aL ?_
         (case aR => first | (have h9_ := (Kd.C_below HR243.out HB.out); rw [show ((rd_L1 l0 0).take ((ji8) : Int).toNat).length = (ji8).toNat from (by rw [List.length_take]; have h_ : ((ji8) : Int) ≤ ((rd_L1 l0 0).length : Int) := of_decide_eq_true as_; omega)] at h9_; exact h9_) | (rw [← show ((rd_L1 l0 0).take ((ji8) : Int).toNat).length = (ji8).toNat from (by rw [List.length_take]; have h_ : ((ji8) : Int) ≤ ((rd_L1 l0 0).length : Int) := of_decide_eq_true as_; omega)]; repeat (first | exact (Kd.C_below HR243.out HB.out) | (with_reducible refine Kd.C_alloc ?_ _) | (with_reducible refine Kd.C_drewN ?_ _) | (with_reducible refine Kd.C_drew ?_))) | (repeat (first | exact (Kd.C_below HR243.out HB.out) | (with_reducible refine Kd.C_alloc ?_ _) | (with_reducible refine Kd.C_drewN ?_ _) | (with_reducible refine Kd.C_drew ?_))))
         (case aB => exact (bl_ HB.out))
         (case aF => exact (fun _ _ => trivial))
         (case aO => exact (kr_ HO241.out))
         (case aS => exact (below_size (bl_ HB.out)))
         (case aL => have := LMc13.out; have hlx_ := (show ((rd_L1 l0 0).take ((ji8) : Int).toNat).length = (ji8).toNat from (by rw [List.length_take]; have h_ : ((ji8) : Int) ≤ ((rd_L1 l0 0).length : Int) := of_decide_eq_true as_; omega)); omega)
         intro v245 w19 ho hb hg hat; rw [← Ny244.out] at ho
         have n0_ := Aside0.mk (hb); have n1_ := Aside0.mk (ho); clear HB; clear HO241; have HB := n0_; have HO246 := n1_; clear n0_ n1_; clear ho hb hg hat; refine hK.out _ _ ⟨((HB.out.cell (World.block_lt_of_cell? w _ hw237_0)).trans hw237_0), ((HB.out.cell (World.block_lt_of_cell? w _ hw238_0)).trans hw238_0), ((HB.out.cell (World.block_lt_of_cell? w _ hw242_0)).trans hw242_0)⟩ (fun hHeld => ?_)
         clear hK K; refine na_ (some 40) ?_; refine pa_ 15 (some 5) rfl rfl HT_ ?_; refine done_ (done_of HT_.out (by kernel_rfl)) ?_
         go_upto_region 5 with (fail)
         go_cut [50] (fun v50 wc => ∃ (kq : Nat) (x50_13 : Bool), v50 = .bool x50_13 ∧ Aside0 (spec_frRead.j1 kq l0 ((rd_L1 l0 0).length : Int) y244 x50_13 = some (r1, r2)) ∧ Aside0 (kq ≤ kj1) ∧ Aside0 (Kd.R (Kd.int .i64) 3 wc w.heap.size (fun _ => True) v245 y244) ∧ Aside0 (Below w.heap.size w wc))
         case first =>
          have H := HC14.out; clear HC14
          by_cases c20 : (l0.length : Int) = (wrap64 (((rd_L1 l0 0).length : Int) - 3))
          ·rw [if_pos c20] at H
           have c20b0 : ((l0.length : Int) == (wrap64 (((rd_L1 l0 0).length : Int) - 3))) = true := beq_iff_eq.mpr c20; have c20b1 : ((l0.length : Int) != (wrap64 (((rd_L1 l0 0).length : Int) - 3))) = false := bne_eq_false_iff_eq.mpr c20; clear c20
           (first | rw [c20b0] | (simp only [i64_w, i32_w]; rw [c20b0]) | skip)
           replace H := Option.bind_eq_some_iff.mp H; obtain ⟨t247, A210, H⟩ := H; replace H : (spec_frRead.j1 kj1 l0 ((rd_L1 l0 0).length : Int) y244 (!t247)) = some (r1, r2) := H; have A21 := Aside0.mk A210; clear A210; have H' := Aside0.mk H; clear H; obtain ⟨Ao22, co22, eo22⟩ := Kd.R_slice HO246.out; subst eo22
           go_wp2_with (first | (go_at_call 18; (with_reducible refine (spec_IsQuiddity.calls kj1 _ _ y244 t247 _ ?side1 ?side2 A21.out).mono ?_); (case side1 => repeat (first | exact (Kd.R_reads' HO246.out).2.2 | (with_reducible refine Kd.C_alloc ?_ _) | (with_reducible refine Kd.C_drewN ?_ _) | (with_reducible refine Kd.C_drew ?_))); (case side2 => exact (Kd.R_reads' HO246.out).2.1); rintro e w23 ⟨rfl, hb⟩; have n0_ := Aside0.mk (Kd.R_below (kr_ HO246.out) hb); have n1_ := Aside0.mk (below_step (bl_ HB.out) hb); clear HO246; clear HB; have HO246 := n0_; have HB := n1_; clear n0_ n1_; (try clear hb); (try clear hb2); (try clear hk); (try clear hi)))
           go_meet
           case rel => exact ⟨_, (!t247), (fs_), H', ⟨by have := HJ1.out; first | omega | exact Nat.le_refl _⟩, ⟨kr_ HO246.out⟩, ⟨bl_ HB.out⟩⟩
          ·rw [if_neg c20] at H
           have c20b0 : ((l0.length : Int) == (wrap64 (((rd_L1 l0 0).length : Int) - 3))) = false := beq_eq_false_iff_ne.mpr c20; have c20b1 : ((l0.length : Int) != (wrap64 (((rd_L1 l0 0).length : Int) - 3))) = true := bne_iff_ne.mpr c20
           (first | rw [c20b0] | (simp only [i64_w, i32_w]; rw [c20b0]) | skip)
           have H' := Aside0.mk H; clear H
           go_wp2
           go_meet
           case rel => exact ⟨_, (true), (fs_), H', ⟨by have := HJ1.out; first | omega | exact Nat.le_refl _⟩, ⟨kr_ HO246.out⟩, ⟨bl_ HB.out⟩⟩
         case rest =>
          clear HC14
          try clear c1
          try clear c2
          try clear p2
          try clear q2
          try clear hx2
          try clear qi2
          try clear c3
          try clear c3b0
          try clear c3b1
          try clear c3b2
          try clear c4
          try clear c4b0
          try clear c4b1
          try clear c6
          try clear p6
          try clear c7
          try clear c7b0
          try clear c7b1
          try clear c9
          try clear c9b0
          try clear c10
          try clear c10b0
          try clear c11
          try clear c11b0
          try clear c12
          try clear c12b0
          try clear c12b1
          try clear c13
          try clear c20
          try clear c20b0
          try clear c20b1
          try clear c23
          try clear p23
          try clear q23
          try clear hx23
          try clear qi23
          try clear hx234_0
          try clear hx236_0
          try clear hx237_0
          try clear hx238_0
          try clear hx242_0
          try clear p2
          try clear p234
          try clear p236
          try clear p237
          try clear p238
          try clear p242
          try clear q2
          try clear q234
          try clear q236
          try clear q237
          try clear q238
          try clear q242
          obtain ⟨kq, x50_13, rfl, HA, HJ13, HO_5, HB⟩ := hcut
          cases kq with
          | zero => exact absurd HA.out (by simp [spec_frRead.j1])
          | succ kj13 =>
           have H := HA.out; clear HA
           simp only [spec_frRead.j1] at H
           by_cases c24 : x50_13 = true
           ·subst c24
            have H1 : (some (([] : List Int), false)) = some (r1, r2) := by rw [if_pos rfl] at H; exact H
            clear H; have H := H1; clear H1
            simp only [Option.some.injEq, Prod.mk.injEq] at H
            obtain ⟨rfl, rfl⟩ := H
            go_wp2
            go_ret2
            exact ⟨_, by first | rfl | (simp [errW_none, errW_some] <;> rfl) | (simp only [← hji8]; first | rfl | (simp [errW_none, errW_some] <;> rfl)) | (simp [*, errW_none, errW_some] <;> rfl), by first | exact Kd.R_nil _ _ _ _ _ | exact Kd.N_nil _ _ _ _ _ | exact Kd.V_nil _ _ _ _ _ | exact Kd.Q_nil _ _ _ _ _ | exact Kd.S_nil _ _ _ _ _, bl_ HB.out⟩
           ·replace c24 := Bool.eq_false_iff.mpr c24
            subst c24; have H1 : (spec_frRead.l0 kj13 ((rd_L1 l0 0).length : Int) y244 l0 (l0.length : Int) 0) = some (r1, r2) := by rw [if_neg (show ¬ (false = true) by decide)] at H; exact H
            clear H; have H := H1; clear H1; have H' := Aside0.mk H; clear H
            go_wp2
            go_loopg [53] kj13 (fun kq v53 w' => ∃ (x53_3 : Int), v53 = .int .i64 x53_3 ∧ Aside0 (spec_frRead.l0 kq ((rd_L1 l0 0).length : Int) y244 l0 (l0.length : Int) x53_3 = some (r1, r2)) ∧ Aside0 (kq ≤ kj13) ∧ Aside0 (Kd.R (Kd.int .i64) 3 w' w.heap.size (fun _ => True) v245 y244) ∧ Aside0 (Below w.heap.size w w'))
            case atStart => exact ⟨(0), (fs_), H', ⟨Nat.le_refl _⟩, ⟨kr_ HO_5.out⟩, ⟨bl_ HB.out⟩⟩
            case round =>
             clear H'
             try clear c1
             try clear c2
             try clear p2
             try clear q2
             try clear hx2
             try clear qi2
             try clear c3
             try clear c3b0
             try clear c3b1
             try clear c3b2
             try clear c4
             try clear c4b0
             try clear c4b1
             try clear c6
             try clear p6
             try clear c7
             try clear c7b0
             try clear c7b1
             try clear c9
             try clear c9b0
             try clear c10
             try clear c10b0
             try clear c11
             try clear c11b0
             try clear c12
             try clear c12b0
             try clear c12b1
             try clear c13
             try clear c20
             try clear c20b0
             try clear c20b1
             try clear c23
             try clear p23
             try clear q23
             try clear hx23
             try clear qi23
             try clear c24
             try clear p24
             try clear q24
             try clear hx24
             try clear qi24
             try clear hx234_0
             try clear hx236_0
             try clear hx237_0
             try clear hx238_0
             try clear hx242_0
             try clear p2
             try clear p23
             try clear p234
             try clear p236
             try clear p237
             try clear p238
             try clear p242
             try clear p6
             try clear q2
             try clear q23
             try clear q234
             try clear q236
             try clear q237
             try clear q238
             try clear q242
             obtain ⟨x53_3, rfl, HA, HK3, HO_5, HB⟩ := hrel
             cases gk with
             | zero => exact absurd HA.out (by simp [spec_frRead.l0])
             | succ k3 =>
              have H := HA.out; clear HA
              simp only [spec_frRead.l0] at H
              by_cases c25 : x53_3 < (l0.length : Int)
              ·rw [if_pos c25] at H
               have c25b0 : decide (x53_3 < (l0.length : Int)) = true := decide_eq_true c25; clear c25
               by_cases c26 : 0 ≤ x53_3
               ·rw [if_pos c26] at H
                have c26b0 : decide (0 ≤ x53_3) = true := decide_eq_true c26; clear c26
                by_cases c27 : x53_3 < (l0.length : Int)
                ·rw [if_pos c27] at H
                 have c27b0 : decide (x53_3 < (l0.length : Int)) = true := decide_eq_true c27; clear c27; replace H := Option.bind_eq_some_iff.mp H; obtain ⟨t249, A280, H⟩ := H; replace H : (if ((rd_L1 l0 x53_3).length : Int) = ((rd_L1 l0 0).length : Int) then (spec_frRead.l1 k3 ((rd_L1 l0 0).length : Int) y244 t249 l0 (l0.length : Int) x53_3 (rd_L1 l0 x53_3) ((rd_L1 l0 x53_3).length : Int) 0) else (some (([] : List Int), false))) = some (r1, r2) := H
                 have A28 := Aside0.mk A280; clear A280
                 by_cases c29 : ((rd_L1 l0 x53_3).length : Int) = ((rd_L1 l0 0).length : Int)
                 ·rw [if_pos c29] at H
                  have c29b0 : (((rd_L1 l0 x53_3).length : Int) == ((rd_L1 l0 0).length : Int)) = true := beq_iff_eq.mpr c29; have c29b1 : (((rd_L1 l0 x53_3).length : Int) != ((rd_L1 l0 0).length : Int)) = false := bne_eq_false_iff_eq.mpr c29; have c29b2 : ((rd_L1 l0 x53_3).length == (rd_L1 l0 0).length) = true := by first | simpa using c29 | (simp at c29 ⊢; omega)
                  clear c29; have H' := Aside0.mk H; clear H; have p248 : 0 ≤ (x53_3 : Int) := of_decide_eq_true as_; have q248 : x53_3 < (l0.length : Int) := of_decide_eq_true as_; obtain ⟨ad248, A248_0, c248_0, e248, hx248_0, hl248_0, hi248_0⟩ := at_L1 HR0.out x53_3 p248 q248; obtain rfl : ad236 = ad248 := (by injection e248)
                  replace hx248_0 := (HB.out.cell (World.block_lt_of_cell? w _ hx248_0)).trans hx248_0; have HR248_0 := Aside0.mk hi248_0; have HC248_0 := Aside0.mk hl248_0; clear hi248_0 hl248_0; replace p248 := eq_true p248; replace q248 := eq_true q248; obtain ⟨Ao30, co30, eo30⟩ := Kd.R_slice HO_5.out; subst eo30
                  go_wp2_with (first | ((with_reducible refine gate_callee (f := 19) rfl ?_); refine goesL_ (some 61) rfl rfl Tryd.func19 (by kernel_rfl) rfl #[.slice Ao30 y244.length co30, .int .i64 (wrap64 (x53_3 + 1))] rfl (by (try simp only [List.map_toArray, List.map_cons, List.map_nil]); first | done | rfl | (simp only [List.length_drop, List.length_take]; rfl)) ?_; (with_reducible refine (spec_frRow.calls k3 _ _ y244 (wrap64 (x53_3 + 1)) t249 _ ?side1 ?side2 A28.out).mono ?_); (case side1 => repeat (first | exact (Kd.R_reads' HO_5.out).2.2 | (with_reducible refine Kd.C_alloc ?_ _) | (with_reducible refine Kd.C_drewN ?_ _) | (with_reducible refine Kd.C_drew ?_))); (case side2 => exact (Kd.R_reads' HO_5.out).2.1); rintro e w31 ⟨v250, rfl, ho0, hb⟩; refine ⟨_, rfl, ?_⟩; have n0_ := Aside0.mk (Kd.R_elder' (kr_ HO_5.out) (Kd.R_base ho0) hb); have n1_ := Aside0.mk (Kd.R_lower (Kd.R_new' ho0 (Kd.R_lt (kr_ HO_5.out))) (below_size (bl_ HB.out))); have n2_ := Aside0.mk (below_step (bl_ HB.out) hb); clear HO_5; clear HB; have HO_5 := n0_; have HO251 := n1_; have HB := n2_; clear n0_ n1_ n2_; (try clear hb); (try clear hb2); (try clear hk); (try clear hi); (try clear ho0)))
                  go_loopg [68] k3 (fun kq v68 w' => ∃ (x68_4 : Int), v68 = .int .i64 x68_4 ∧ Aside0 (spec_frRead.l1 kq ((rd_L1 l0 0).length : Int) y244 t249 l0 (l0.length : Int) x53_3 (rd_L1 l0 x53_3) ((rd_L1 l0 x53_3).length : Int) x68_4 = some (r1, r2)) ∧ Aside0 (kq ≤ k3) ∧ Aside0 (Kd.R (Kd.int .i64) 3 w' w.heap.size (fun k_ => some k_ ≠ (v250 : Value).ownBlock) (.slice Ao30 y244.length co30) y244) ∧ Aside0 (Kd.R (Kd.int .i64) 3 w' w.heap.size (fun k_ => some k_ ≠ ((.slice Ao30 y244.length co30) : Value).ownBlock) v250 t249) ∧ Aside0 (Below w.heap.size w w'))
                  case atStart => exact ⟨(0), (fs_), H', ⟨Nat.le_refl _⟩, ⟨by (with_reducible repeat (first | apply Kd.R_alloc | apply Kd.R_drewN | apply Kd.R_drew)); exact Kd.R_mono HO_5.out (fun _ hk => hk.2)⟩, ⟨by (with_reducible repeat (first | apply Kd.R_alloc | apply Kd.R_drewN | apply Kd.R_drew)); exact Kd.R_mono HO251.out (fun _ hk => hk.2)⟩, ⟨bl_ HB.out⟩⟩
                  case round =>
                   clear H'
                   try clear c1
                   try clear c2
                   try clear p2
                   try clear q2
                   try clear hx2
                   try clear qi2
                   try clear c3
                   try clear c3b0
                   try clear c3b1
                   try clear c3b2
                   try clear c4
                   try clear c4b0
                   try clear c4b1
                   try clear c6
                   try clear p6
                   try clear c7
                   try clear c7b0
                   try clear c7b1
                   try clear c9
                   try clear c9b0
                   try clear c10
                   try clear c10b0
                   try clear c11
                   try clear c11b0
                   try clear c12
                   try clear c12b0
                   try clear c12b1
                   try clear c13
                   try clear c19
                   try clear c20
                   try clear c20b0
                   try clear c20b1
                   try clear c23
                   try clear p23
                   try clear q23
                   try clear hx23
                   try clear qi23
                   try clear c24
                   try clear p24
                   try clear q24
                   try clear hx24
                   try clear qi24
                   try clear c25
                   try clear c25b0
                   try clear c26
                   try clear c26b0
                   try clear c27
                   try clear c27b0
                   try clear c29
                   try clear c29b0
                   try clear c29b1
                   try clear c29b2
                   try clear hx234_0
                   try clear hx236_0
                   try clear hx237_0
                   try clear hx238_0
                   try clear hx242_0
                   try clear hx248_0
                   try clear p2
                   try clear p23
                   try clear p234
                   try clear p236
                   try clear p237
                   try clear p238
                   try clear p24
                   try clear p242
                   try clear p248
                   try clear p6
                   try clear q2
                   try clear q23
                   try clear q234
                   try clear q236
                   try clear q237
                   try clear q238
                   try clear q24
                   try clear q242
                   try clear q248
                   obtain ⟨x68_4, rfl, HA, HK4, HO_5, HO_8, HB⟩ := hrel
                   cases gk with
                   | zero => exact absurd HA.out (by simp [spec_frRead.l1])
                   | succ k4 =>
                    have H := HA.out; clear HA
                    simp only [spec_frRead.l1] at H
                    by_cases c32 : x68_4 < ((rd_L1 l0 x53_3).length : Int)
                    ·rw [if_pos c32] at H
                     have c32b0 : decide (x68_4 < ((rd_L1 l0 x53_3).length : Int)) = true := decide_eq_true c32; clear c32
                     by_cases c33 : 0 ≤ x68_4
                     ·rw [if_pos c33] at H
                      have c33b0 : decide (0 ≤ x68_4) = true := decide_eq_true c33; clear c33
                      by_cases c34 : x68_4 < ((rd_L1 l0 x53_3).length : Int)
                      ·rw [if_pos c34] at H
                       have c34b0 : decide (x68_4 < ((rd_L1 l0 x53_3).length : Int)) = true := decide_eq_true c34; clear c34
                       by_cases c35 : x68_4 < (t249.length : Int)
                       ·rw [if_pos c35] at H
                        have c35b0 : decide (x68_4 < (t249.length : Int)) = true := decide_eq_true c35; clear c35
                        by_cases c36 : (rd (rd_L1 l0 x53_3) x68_4) = (rd t249 x68_4)
                        ·rw [if_pos c36] at H
                         have c36b0 : ((rd (rd_L1 l0 x53_3) x68_4) == (rd t249 x68_4)) = true := beq_iff_eq.mpr c36; have c36b1 : ((rd (rd_L1 l0 x53_3) x68_4) != (rd t249 x68_4)) = false := bne_eq_false_iff_eq.mpr c36; clear c36; have H' := Aside0.mk H; clear H; have p252 : 0 ≤ (x68_4 : Int) := of_decide_eq_true as_; have q252 : x68_4 < ((rd_L1 l0 x53_3).length : Int) := of_decide_eq_true as_; obtain ⟨ad252, e252, hx252_0⟩ := Kd.at_int HR248_0.out x68_4 p252 q252
                         cases e252
                         replace hx252_0 := (HB.out.cell (World.block_lt_of_cell? w _ hx252_0)).trans hx252_0; replace p252 := eq_true p252; replace q252 := eq_true q252; obtain ⟨Ao37, co37, eo37⟩ := Kd.R_slice HO_8.out; subst eo37; have p253 : 0 ≤ (x68_4 : Int) := of_decide_eq_true as_; have q253 : x68_4 < (t249.length : Int) := of_decide_eq_true as_; obtain ⟨ad253, e253, hx253_0⟩ := Kd.at_int (Kd.R_reads' HO_8.out).2.2 x68_4 p253 q253
                         cases e253
                         replace p253 := eq_true p253; replace q253 := eq_true q253
                         go_wp2
                         go_roundg k4
                         case measure => have := HJ1.out; have := HJ13.out; have := HK3.out; have := HK4.out; omega
                         case rel => exact ⟨(wrap64 (x68_4 + 1)), (fs_), H', ⟨by have := HJ1.out; have := HJ13.out; have := HK3.out; have := HK4.out; omega⟩, ⟨kr_ HO_5.out⟩, ⟨kr_ HO_8.out⟩, ⟨bl_ HB.out⟩⟩
                        ·rw [if_neg c36] at H
                         have c36b0 : ((rd (rd_L1 l0 x53_3) x68_4) == (rd t249 x68_4)) = false := beq_eq_false_iff_ne.mpr c36; have c36b1 : ((rd (rd_L1 l0 x53_3) x68_4) != (rd t249 x68_4)) = true := bne_iff_ne.mpr c36
                         simp only [Option.some.injEq, Prod.mk.injEq] at H
                         obtain ⟨rfl, rfl⟩ := H; have p252 : 0 ≤ (x68_4 : Int) := of_decide_eq_true as_; have q252 : x68_4 < ((rd_L1 l0 x53_3).length : Int) := of_decide_eq_true as_; obtain ⟨ad252, e252, hx252_0⟩ := Kd.at_int HR248_0.out x68_4 p252 q252
                         cases e252
                         replace hx252_0 := (HB.out.cell (World.block_lt_of_cell? w _ hx252_0)).trans hx252_0; replace p252 := eq_true p252; replace q252 := eq_true q252; obtain ⟨Ao38, co38, eo38⟩ := Kd.R_slice HO_8.out; subst eo38; have p253 : 0 ≤ (x68_4 : Int) := of_decide_eq_true as_; have q253 : x68_4 < (t249.length : Int) := of_decide_eq_true as_; obtain ⟨ad253, e253, hx253_0⟩ := Kd.at_int (Kd.R_reads' HO_8.out).2.2 x68_4 p253 q253
                         cases e253
                         replace p253 := eq_true p253; replace q253 := eq_true q253
                         go_wp2
                         go_ret2
                         exact ⟨_, by first | rfl | (simp [errW_none, errW_some] <;> rfl) | (simp only [← hji8]; first | rfl | (simp [errW_none, errW_some] <;> rfl)) | (simp [*, errW_none, errW_some] <;> rfl), by first | exact Kd.R_nil _ _ _ _ _ | exact Kd.N_nil _ _ _ _ _ | exact Kd.V_nil _ _ _ _ _ | exact Kd.Q_nil _ _ _ _ _ | exact Kd.S_nil _ _ _ _ _, bl_ HB.out⟩
                       ·rw [if_neg c35] at H
                        exact absurd H (by simp)
                      ·rw [if_neg c34] at H
                       exact absurd H (by simp)
                     ·rw [if_neg c33] at H
                      exact absurd H (by simp)
                    ·rw [if_neg c32] at H
                     have c32b0 : decide (x68_4 < ((rd_L1 l0 x53_3).length : Int)) = false := decide_eq_false c32; clear c32; have H' := Aside0.mk H; clear H
                     go_wp2
                     go_roundg k4
                     case measure => have := HJ1.out; have := HJ13.out; have := HK3.out; have := HK4.out; omega
                     case rel => exact ⟨(wrap64 (x53_3 + 1)), (fs_), H', ⟨by have := HJ1.out; have := HJ13.out; have := HK3.out; have := HK4.out; omega⟩, ⟨by (with_reducible repeat (first | apply Kd.R_alloc | apply Kd.R_drewN | apply Kd.R_drew)); exact Kd.R_mono HO_5.out (fun _ hk => trivial)⟩, ⟨bl_ HB.out⟩⟩
                 ·rw [if_neg c29] at H
                  have c29b0 : (((rd_L1 l0 x53_3).length : Int) == ((rd_L1 l0 0).length : Int)) = false := beq_eq_false_iff_ne.mpr c29; have c29b1 : (((rd_L1 l0 x53_3).length : Int) != ((rd_L1 l0 0).length : Int)) = true := bne_iff_ne.mpr c29; have c29b2 : ((rd_L1 l0 x53_3).length == (rd_L1 l0 0).length) = false := by first | simpa using c29 | (simp at c29 ⊢; omega)
                  simp only [Option.some.injEq, Prod.mk.injEq] at H
                  obtain ⟨rfl, rfl⟩ := H; have p248 : 0 ≤ (x53_3 : Int) := of_decide_eq_true as_; have q248 : x53_3 < (l0.length : Int) := of_decide_eq_true as_; obtain ⟨ad248, A248_0, c248_0, e248, hx248_0, hl248_0, hi248_0⟩ := at_L1 HR0.out x53_3 p248 q248; obtain rfl : ad236 = ad248 := (by injection e248)
                  replace hx248_0 := (HB.out.cell (World.block_lt_of_cell? w _ hx248_0)).trans hx248_0; have HR248_0 := Aside0.mk hi248_0; have HC248_0 := Aside0.mk hl248_0; clear hi248_0 hl248_0; replace p248 := eq_true p248; replace q248 := eq_true q248; obtain ⟨Ao39, co39, eo39⟩ := Kd.R_slice HO_5.out; subst eo39
                  go_wp2_with (first | ((with_reducible refine gate_callee (f := 19) rfl ?_); refine goesL_ (some 61) rfl rfl Tryd.func19 (by kernel_rfl) rfl #[.slice Ao39 y244.length co39, .int .i64 (wrap64 (x53_3 + 1))] rfl (by (try simp only [List.map_toArray, List.map_cons, List.map_nil]); first | done | rfl | (simp only [List.length_drop, List.length_take]; rfl)) ?_; (with_reducible refine (spec_frRow.calls k3 _ _ y244 (wrap64 (x53_3 + 1)) t249 _ ?side1 ?side2 A28.out).mono ?_); (case side1 => repeat (first | exact (Kd.R_reads' HO_5.out).2.2 | (with_reducible refine Kd.C_alloc ?_ _) | (with_reducible refine Kd.C_drewN ?_ _) | (with_reducible refine Kd.C_drew ?_))); (case side2 => exact (Kd.R_reads' HO_5.out).2.1); rintro e w40 ⟨v250, rfl, ho0, hb⟩; refine ⟨_, rfl, ?_⟩; have n0_ := Aside0.mk (Kd.R_elder' (kr_ HO_5.out) (Kd.R_base ho0) hb); have n1_ := Aside0.mk (Kd.R_lower (Kd.R_new' ho0 (Kd.R_lt (kr_ HO_5.out))) (below_size (bl_ HB.out))); have n2_ := Aside0.mk (below_step (bl_ HB.out) hb); clear HO_5; clear HB; have HO_5 := n0_; have HO251 := n1_; have HB := n2_; clear n0_ n1_ n2_; (try clear hb); (try clear hb2); (try clear hk); (try clear hi); (try clear ho0)))
                  go_ret2
                  exact ⟨_, by first | rfl | (simp [errW_none, errW_some] <;> rfl) | (simp only [← hji8]; first | rfl | (simp [errW_none, errW_some] <;> rfl)) | (simp [*, errW_none, errW_some] <;> rfl), by first | exact Kd.R_nil _ _ _ _ _ | exact Kd.N_nil _ _ _ _ _ | exact Kd.V_nil _ _ _ _ _ | exact Kd.Q_nil _ _ _ _ _ | exact Kd.S_nil _ _ _ _ _, bl_ HB.out⟩
                ·rw [if_neg c27] at H
                 exact absurd H (by simp)
               ·rw [if_neg c26] at H
                exact absurd H (by simp)
              ·rw [if_neg c25] at H
               have c25b0 : decide (x53_3 < (l0.length : Int)) = false := decide_eq_false c25; clear c25
               simp only [Option.some.injEq, Prod.mk.injEq] at H
               obtain ⟨rfl, rfl⟩ := H
               go_wp2
               go_ret2
               exact ⟨_, by first | rfl | (simp [errW_none, errW_some] <;> rfl) | (simp only [← hji8]; first | rfl | (simp [errW_none, errW_some] <;> rfl)) | (simp [*, errW_none, errW_some] <;> rfl), by (with_reducible repeat (first | apply Kd.R_alloc | apply Kd.R_drewN | apply Kd.R_drew)); exact HO_5.out, bl_ HB.out⟩
        ·rw [if_neg c13] at H
         exact absurd H (by simp)
       ·rw [if_neg c12] at H
        exact absurd H (by simp)
      ·rw [if_neg c10] at H
       exact absurd H (by simp)
     ·rw [if_neg c9] at H
      exact absurd H (by simp)
    ·rw [if_neg c7] at H
     exact absurd H (by simp)
end Go.Proofs.YtmpmmhmnjdkgcaaDoor.PFnExactFriezeText
