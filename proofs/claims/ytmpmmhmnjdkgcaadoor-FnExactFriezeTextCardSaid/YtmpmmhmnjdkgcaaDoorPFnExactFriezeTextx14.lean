-- Written for this claim by a program of this session (wip/tools/xprint.py over the kit's printer, wip/tools/shrink.py).
import Derived.Test.YtmpmmhmnjdkgcaaDoorPFnExactFriezeTextx0
import Derived.Test.YtmpmmhmnjdkgcaaDoorPFnExactFriezeTextx7
import Derived.Test.YtmpmmhmnjdkgcaaDoorPFnExactFriezeTextx13
namespace Go.Proofs.YtmpmmhmnjdkgcaaDoor.PFnExactFriezeText
open Go.RowKit Go.Proofs.YtmpmmhmnjdkgcaaDoorW.PrintWords Go.Proofs.YtmpmmhmnjdkgcaaDoorW.PrintLast Go.Proofs.YtmpmmhmnjdkgcaaDoorW.PrintMore
attribute [local go_sem] max2_int min2_int max_two min_two max_three min_three max_four min_four   -- for this text's walks alone
set_option linter.unusedVariables false
set_option linter.unusedSimpArgs false
def impl_IsQuiddity.f (k : Nat) (l0 : List Int) : Option (Bool) := (impl_triangulation.f k l0).bind fun bt382 => (some bt382.2)
set_option maxHeartbeats 8000000 in
set_option maxRecDepth 100000 in
theorem impl_IsQuiddity.calls (k : Nat) (A0 : Option Addr) (c0 : Nat) (l0 : List Int) (r : Bool) (w : World) (hr0 : Kd.C (Kd.int .i64) w A0 l0.length l0) (hc0 : l0.length ≤ c0) (h : impl_IsQuiddity.f k l0 = some r) :
  Calls Tryd.prog 29 #[.slice A0 l0.length c0] w fun e w' => e = .returned (.bool r) ∧ Below w.heap.size w w' := by
 have HR0 := Aside0.mk hr0; have HC0 := Aside0.mk hc0; clear hr0 hc0; have HB := Aside0.mk (Below.refl w.heap.size w); have H : ((impl_triangulation.f k l0).bind fun bt382 => (some bt382.2)) = some r := h
 clear h; replace H := Option.bind_eq_some_iff.mp H; obtain ⟨⟨t382, t383⟩, A20, H⟩ := H; replace H : (some t383) = some r := H; have A2 := Aside0.mk A20; clear A20; obtain rfl := Option.some.inj H
 go_enter Tryd.func29, Tryd.ntmps29
 go_wp2_with (first | ((with_reducible refine gate_callee (f := 42) rfl ?_); refine goesL_ (some 7) rfl rfl Tryd.func42 (by kernel_rfl) rfl #[.slice A0 l0.length c0] rfl (by (try simp only [List.map_toArray, List.map_cons, List.map_nil]); first | done | rfl | (simp only [List.length_drop, List.length_take]; rfl)) ?_; (with_reducible refine (impl_triangulation.calls k _ _ l0 t382 t383 _ ?side1 ?side2 A2.out).mono ?_); (case side1 => repeat (first | exact HR0.out | (with_reducible refine Kd.C_alloc ?_ _) | (with_reducible refine Kd.C_drewN ?_ _) | (with_reducible refine Kd.C_drew ?_))); (case side2 => exact HC0.out); rintro e w3 ⟨v384, rfl, ho0, hb⟩; refine ⟨_, rfl, ?_⟩; have n0_ := Aside0.mk (Kd.R_lower ho0 (below_size (bl_ HB.out))); have n1_ := Aside0.mk (below_step (bl_ HB.out) hb); clear HB; have HO385 := n0_; have HB := n1_; clear n0_ n1_; (try clear hb); (try clear hb2); (try clear hk); (try clear hi); (try clear ho0)))
 go_ret
 exact ⟨by first | rfl | (simp [errW_none, errW_some] <;> rfl) | (simp [*, errW_none, errW_some] <;> rfl), bl_ HB.out⟩
def impl_entries.l0 : Nat → List Int → Int → Int → List Int → Int → Option (List Int)
 | 0, _, _, _, _, _ => none
 | k + 1, x0, x1, x5, x6, x7 => if x7 < x5 then ((impl_modulo.f (wrap64 (x1 + x7)) x5).bind fun t389 => (if 0 ≤ t389 then (if t389 < (x0.length : Int) then (if 0 ≤ x7 then (if x7 < (x6.length : Int) then (if 0 ≤ (wrap64 (x7 - 1)) then (if (wrap64 (x7 - 1)) < (x6.length : Int) then (if x6.length < 17592186044416 then (impl_entries.l0 k x0 x1 x5 (x6 ++ [wrap64 ((wrap64 ((rd x0 t389) * (rd x6 x7))) - (rd x6 (wrap64 (x7 - 1))))]) (wrap64 (x7 + 1))) else (none)) else (none)) else (none)) else (none)) else (none)) else (none)) else (none))) else (some x6)
def impl_entries.f (k : Nat) (l0 : List Int) (a1 : Int) : Option (List Int) := impl_entries.l0 k l0 a1 (l0.length : Int) (([0, 1] : List Int)) 1
def impl_entries.T5 : Bool × List (List Nat × List Nat) := (true, [([], []), ([], []), ([], []), ([], []), ([2, 3], [2, 3]), ([], []), ([4, 5], [4, 5]), ([1, 6], [1, 6]), ([7], [7]), ([], []), ([], []), ([9, 10], [9, 10]), ([11], [11]), ([8, 12], [8, 12]), ([], []), ([], []), ([15], [15]), ([14, 16], [14, 16]), ([17], [17]), ([13, 18], [13, 18]), ([19], [19]), ([0, 20, 6], [0, 20]), ([21, 21, 0, 1, 2, 3, 4, 5, 6, 7, 8, 9, 10, 11, 12, 13, 14, 15, 16, 17, 18, 19, 20, 21], [0, 9, 14, 21])])
def impl_entries.B5 : List Nat := [0, 0, 0, 0, 12, 0, 60, 126, 254, 0, 0, 1536, 3584, 8190, 0, 0, 32768, 114688, 245760, 524286, 1048574, 2097151, 4194303]
theorem impl_entries.tab5 : rtab .any (opsOf Tryd.f56 5) = impl_entries.T5 := by kernel_rfl
theorem impl_entries.bits5 : waitsOk impl_entries.T5.2 impl_entries.B5 = true := by kernel_rfl
set_option maxHeartbeats 8000000 in
set_option maxRecDepth 100000 in
theorem impl_entries.calls (k : Nat) (A0 : Option Addr) (c0 : Nat) (l0 : List Int) (a1 : Int) (r : List Int) (w : World) (hr0 : Kd.C (Kd.int .i64) w A0 l0.length l0) (hc0 : l0.length ≤ c0) (h : impl_entries.f k l0 a1 = some r) :
  Calls Tryd.prog 56 #[.slice A0 l0.length c0, .int .i64 a1] w fun e w' => ∃ v0_ : Value, e = .returned (v0_) ∧ Kd.R (Kd.int .i64) 3 w' w.heap.size (fun _ => True) v0_ r ∧ Below w.heap.size w w' := by
 have HR0 := Aside0.mk hr0; have HC0 := Aside0.mk hc0; clear hr0 hc0; have HB := Aside0.mk (Below.refl w.heap.size w); have H : (impl_entries.l0 k l0 a1 (l0.length : Int) (([0, 1] : List Int)) 1) = some r := h; clear h; obtain ⟨y386, hy386⟩ : ∃ y_ : List Int, y_ = (([0, 1] : List Int)) := ⟨_, rfl⟩; replace H : (impl_entries.l0 k l0 a1 (l0.length : Int) y386 1) = some r := rh_ hy386 H; have Ny386 := Aside0.mk hy386; clear hy386; have H' := Aside0.mk H; clear H
 go_enter Tryd.func56, Tryd.ntmps56
 go_wp2_with (first | ((with_reducible refine gate_dst (N := 10) rfl ?_); refine Kd.R_lit (Kd.int .i64) _ 3 ?hg (N := 10) ?hd (xs := ([0, 1] : List Int)) (inner := [.int .i64 0, .int .i64 1]) (ok := fun _ => True) (okp := fun _ => True) ?hr ?hp (fun _ hk => hk) trivial (Below.refl _ _) (Nat.le_refl _) (by simp) ?_; (case hd => rfl); (case hg => rfl); (case hr => first | (go_simp; done) | (go_simp; rfl)); (case hp => exact (Reps.one (show Kd.M (Kd.int .i64) _ _ _ 0 [.int .i64 0] from rfl) (Reps.one (show Kd.M (Kd.int .i64) _ _ _ 1 [.int .i64 1] from rfl) (Reps.none _ _)))); intro v387 w3 ho4 hb hg_ hnew_; clear hg_ hnew_; (first | rw [← Ny386.out] at ho4 | (simp only [Int.reduceToNat] at ho4; rw [← Ny386.out] at ho4)); have n0_ := Aside0.mk (Kd.R_lower ho4 (below_size (bl_ HB.out))); have n1_ := Aside0.mk (below_step (bl_ HB.out) hb); clear HB; have HO388 := n0_; have HB := n1_; clear n0_ n1_; clear hb ho4))
 go_loopg [6, 7] k (fun kq v6 v7 w' => ∃ (x6_1 : List Int) (x7_1 : Int), v7 = .int .i64 x7_1 ∧ Aside0 (impl_entries.l0 kq l0 a1 (l0.length : Int) x6_1 x7_1 = some r) ∧ Aside0 (kq ≤ k) ∧ Aside0 (Kd.R (Kd.int .i64) 3 w' w.heap.size (fun _ => True) v6 x6_1) ∧ Aside0 (Below w.heap.size w w'))
 case atStart => exact ⟨(y386), (1), (fs_), H', ⟨Nat.le_refl _⟩, ⟨kr_ HO388.out⟩, ⟨bl_ HB.out⟩⟩
 case round =>
  clear H'
  try clear p2
  obtain ⟨x6_1, x7_1, rfl, HA, HK1, HO_6, HB⟩ := hrel
  cases gk with
  | zero => exact absurd HA.out (by simp [impl_entries.l0])
  | succ k1 =>
   have H := HA.out; clear HA
   simp only [impl_entries.l0] at H
   by_cases c5 : x7_1 < (l0.length : Int)
   ·rw [if_pos c5] at H
    have c5b0 : decide (x7_1 < (l0.length : Int)) = true := decide_eq_true c5; clear c5; replace H := Option.bind_eq_some_iff.mp H; obtain ⟨t389, A60, H⟩ := H; replace H : (if 0 ≤ t389 then (if t389 < (l0.length : Int) then (if 0 ≤ x7_1 then (if x7_1 < (x6_1.length : Int) then (if 0 ≤ (wrap64 (x7_1 - 1)) then (if (wrap64 (x7_1 - 1)) < (x6_1.length : Int) then (if x6_1.length < 17592186044416 then (impl_entries.l0 k1 l0 a1 (l0.length : Int) (x6_1 ++ [wrap64 ((wrap64 ((rd l0 t389) * (rd x6_1 x7_1))) - (rd x6_1 (wrap64 (x7_1 - 1))))]) (wrap64 (x7_1 + 1))) else (none)) else (none)) else (none)) else (none)) else (none)) else (none)) else (none)) = some r := H
    have A6 := Aside0.mk A60; clear A60
    by_cases c7 : 0 ≤ t389
    ·rw [if_pos c7] at H
     have c7b0 : decide (0 ≤ t389) = true := decide_eq_true c7; clear c7
     by_cases c8 : t389 < (l0.length : Int)
     ·rw [if_pos c8] at H
      have c8b0 : decide (t389 < (l0.length : Int)) = true := decide_eq_true c8; clear c8
      by_cases c9 : 0 ≤ x7_1
      ·rw [if_pos c9] at H
       have c9b0 : decide (0 ≤ x7_1) = true := decide_eq_true c9; clear c9
       by_cases c10 : x7_1 < (x6_1.length : Int)
       ·rw [if_pos c10] at H
        have c10b0 : decide (x7_1 < (x6_1.length : Int)) = true := decide_eq_true c10; clear c10; obtain ⟨ji11, hji11⟩ : ∃ j_ : Int, (wrap64 (x7_1 - 1)) = j_ := ⟨_, rfl⟩; replace H : (if 0 ≤ (ji11) then (if (ji11) < (x6_1.length : Int) then (if x6_1.length < 17592186044416 then (impl_entries.l0 k1 l0 a1 (l0.length : Int) (x6_1 ++ [wrap64 ((wrap64 ((rd l0 t389) * (rd x6_1 x7_1))) - (rd x6_1 (ji11)))]) (wrap64 (x7_1 + 1))) else (none)) else (none)) else (none)) = some r := by first | (rw [hji11] at H; exact H) | (simp only [hji11] at H ⊢; exact H)
        (try rw [hji11] at A6)
        have hji11w : (IntKind.i64.wrap (x7_1 - 1)) = ji11 := (i64_w _).trans hji11
        by_cases c12 : 0 ≤ (ji11)
        ·rw [if_pos c12] at H
         have c12b0 : decide (0 ≤ (ji11)) = true := decide_eq_true c12; clear c12
         by_cases c13 : (ji11) < (x6_1.length : Int)
         ·rw [if_pos c13] at H
          have c13b0 : decide ((ji11) < (x6_1.length : Int)) = true := decide_eq_true c13; clear c13
          by_cases c14 : x6_1.length < 17592186044416
          ·rw [if_pos c14] at H
           have LMc14 := Aside0.mk c14; clear c14; obtain ⟨y393, hy393⟩ : ∃ y_ : List Int, y_ = (x6_1 ++ [wrap64 ((wrap64 ((rd l0 t389) * (rd x6_1 x7_1))) - (rd x6_1 (ji11)))]) := ⟨_, rfl⟩; replace H : (impl_entries.l0 k1 l0 a1 (l0.length : Int) y393 (wrap64 (x7_1 + 1))) = some r := rh_ hy393 H; have Ny393 := Aside0.mk hy393; clear hy393; have H' := Aside0.mk H; clear H
           try go_wp2
           have n0_ := Aside0.mk (Kd.R_drew HO_6.out); have n1_ := Aside0.mk (below_drew1 HB.out); clear HO_6; clear HB; have HO_6 := n0_; have HB := n1_; clear n0_ n1_; obtain ⟨Ao16, co16, eo16⟩ := Kd.R_slice HO_6.out
           (first | subst eo16 | (injection eo16 with f1_ f2_ f3_; have f4_ := f1_.symm; have f5_ := f3_.symm; clear f1_ f2_ f3_; subst f4_; subst f5_))
           have p391 : 0 ≤ (x7_1 : Int) := of_decide_eq_true as_; have q391 : x7_1 < (x6_1.length : Int) := of_decide_eq_true as_; obtain ⟨ad391, e391, hx391_0⟩ := Kd.at_int (Kd.R_reads' HO_6.out).2.2 x7_1 p391 q391
           cases e391
           replace p391 := eq_true p391; replace q391 := eq_true q391; have p392 : 0 ≤ ((ji11) : Int) := of_decide_eq_true as_; have q392 : (ji11) < (x6_1.length : Int) := of_decide_eq_true as_; obtain ⟨ad392, e392, hx392_0⟩ := Kd.at_int (Kd.R_reads' HO_6.out).2.2 (ji11) p392 q392; obtain rfl : ad391 = ad392 := (by injection e392)
           replace p392 := eq_true p392; replace q392 := eq_true q392; have p390 : 0 ≤ (t389 : Int) := of_decide_eq_true as_; have q390 : t389 < (l0.length : Int) := of_decide_eq_true as_; obtain ⟨ad390, e390, hx390_0⟩ := Kd.at_int HR0.out t389 p390 q390; have hw390_0 := hx390_0
           cases e390
           replace hx390_0 := (HB.out.cell (World.block_lt_of_cell? w _ hx390_0)).trans hx390_0; replace p390 := eq_true p390; replace q390 := eq_true q390; refine start_ (n := 23) (S := fun w' => w'.cell? (ad391.add (x7_1).toNat) = some (.int .i64 (rd x6_1 x7_1)) ∧ w'.cell? (ad391.add ((ji11)).toNat) = some (.int .i64 (rd x6_1 (ji11))) ∧ w'.cell? (ad390.add (t389).toNat) = some (.int .i64 (rd l0 t389))) (ds := [20, 21]) #[false, false, false, false, false, false, false, false, false, false, false, false, false, false, false, false, false, false, false, false, false, false, false] (by kernel_rfl) rfl rfl ⟨hx391_0, hx392_0, ((HB.out.cell (World.block_lt_of_cell? w _ hw390_0)).trans hw390_0)⟩ (fun hHeld => ?_); refine with_tabW impl_entries.tab5 impl_entries.bits5 (fun HT_ HW_ => ?_)
           generalize wr.drew = w15 at HO_6 HB hx390_0 hx391_0 hx392_0 hHeld ⊢
           refine pa_ 0 (some 16) rfl rfl HT_ ?_; refine pa_ 1 (some 17) rfl rfl HT_ ?_; refine pa_ 2 (some 18) rfl rfl HT_ ?_; refine pa_ 3 (some 19) rfl rfl HT_ ?_; refine pa_ 4 (some 20) rfl rfl HT_ ?_; refine pa_ 5 (some 21) rfl rfl HT_ ?_; refine pa_ 9 (some 25) rfl rfl HT_ ?_; refine pa_ 10 (some 26) rfl rfl HT_ ?_; refine pa_ 11 (some 27) rfl rfl HT_ ?_; refine pa_ 14 (some 30) rfl rfl HT_ ?_; refine pa_ 15 (some 31) rfl rfl HT_ ?_; refine pa_ 16 (some 32) rfl rfl HT_ ?_; refine pa_ 17 (some 33) rfl rfl HT_ ?_; refine ta2_ 12 (some 28) rfl rfl HT_ HW_ hHeld ?_; refine ta2_ 18 (some 34) rfl rfl HT_ HW_ hHeld ?_; refine one_ (i := 6) (N := some 22) #[true, true, true, true, true, true, true, false, false, true, true, true, true, false, true, true, true, true, true, false, false, false, false] rfl rfl (one_of HT_.out (by kernel_rfl)) (by decide) (fun K hK => ?_)
           refine goes_ Tryd.func28 (by kernel_rfl) rfl #[.int .i64 (wrap64 (a1 + x7_1)), .int .i64 (l0.length : Int)] (by rfl) rfl rfl (by (try simp only [List.map_toArray, List.map_cons, List.map_nil]); first | done | rfl | (simp only [List.length_drop, List.length_take]; rfl)) ?_
           with_reducible refine (impl_modulo.calls (wrap64 (a1 + x7_1)) (l0.length : Int) t389 _ A6.out).mono ?_
           rintro e w' ⟨rfl, ⟨nd, rfl⟩⟩
           refine ⟨_, rfl, ?_⟩; refine hK.out _ _ ⟨hHeld.1, hHeld.2.1, ((HB.out.cell (World.block_lt_of_cell? w _ hw390_0)).trans hw390_0)⟩ (fun hHeld => ?_)
           clear hK K; refine na_ (some 22) ?_; refine pa_ 7 (some 23) rfl rfl HT_ ?_; refine ta2_ 8 (some 24) rfl rfl HT_ HW_ hHeld ?_; refine pa_ 13 (some 29) rfl rfl HT_ ?_; refine pa_ 19 (some 35) rfl rfl HT_ ?_; refine last_ (i := 20) (N := some 36) #[true, true, true, true, true, true, true, true, true, true, true, true, true, true, true, true, true, true, true, true, true, false, false] rfl rfl (one_of HT_.out (by kernel_rfl)) (by decide) (fun K hK => ?_)
           refine value_ (w1 := ?_) (v := ?_) (by rfl) rfl ?_ ?_
           rotate_left 2
           ·go_simp
            constructor
            ·rfl
            ·rfl
           refine hK.out _ _ ?_; clear hK K; refine na_ (some 36) ?_; refine last_ (i := 21) (N := some 37) #[true, true, true, true, true, true, true, true, true, true, true, true, true, true, true, true, true, true, true, true, true, true, false] rfl rfl (one_of HT_.out (by kernel_rfl)) (by decide) (fun K hK => ?_)
           refine Kd.R_append_step (Kd.int .i64) (w0 := w) w.heap.size (by rfl) (.tmp 16) (.tmp 36) 30 3 (.int .i64 0) 8 rfl Tryd.underlying30 info3 rfl (by decide) (by omega) (.slice (some ad391) x6_1.length co16) x6_1 (wrap64 ((wrap64 ((rd l0 t389) * (rd x6_1 x7_1))) - (rd x6_1 (ji11)))) [.int .i64 (wrap64 ((wrap64 ((rd l0 t389) * (rd x6_1 x7_1))) - (rd x6_1 (ji11))))] (fun _ => True) (fun _ => False) rfl rfl ?aP (fun _ hk => hk.elim) ?aF ?aO ?aB ?aS ?aL ?_
           (case aP => exact rfl)
           (case aB => exact (bl_ HB.out))
           (case aF => exact (fun _ _ => trivial))
           (case aO => exact (kr_ HO_6.out))
           (case aS => exact (below_size (bl_ HB.out)))
           (case aL => have := LMc14.out; omega)
           intro v394 w17 ho hb hg hat; rw [← Ny393.out] at ho
           have n0_ := Aside0.mk (hb); have n1_ := Aside0.mk (ho); clear HB; clear HO_6; have HB := n0_; have HO395 := n1_; clear n0_ n1_; clear ho hb hg hat; refine hK.out _ _ ?_; clear hK K; refine na_ (some 37) ?_; refine pa_ 22 (some 6) rfl rfl HT_ ?_; refine done_ (done_of HT_.out (by kernel_rfl)) ?_
           try go_wp2
           go_roundg k1
           case measure => have := HK1.out; omega
           case rel => exact ⟨(y393), (wrap64 (x7_1 + 1)), (fs_), H', ⟨by have := HK1.out; omega⟩, ⟨kr_ HO395.out⟩, ⟨bl_ HB.out⟩⟩
          ·rw [if_neg c14] at H
           exact absurd H (by simp)
         ·rw [if_neg c13] at H
          exact absurd H (by simp)
        ·rw [if_neg c12] at H
         exact absurd H (by simp)
       ·rw [if_neg c10] at H
        exact absurd H (by simp)
      ·rw [if_neg c9] at H
       exact absurd H (by simp)
     ·rw [if_neg c8] at H
      exact absurd H (by simp)
    ·rw [if_neg c7] at H
     exact absurd H (by simp)
   ·rw [if_neg c5] at H
    have c5b0 : decide (x7_1 < (l0.length : Int)) = false := decide_eq_false c5; clear c5; obtain rfl := Option.some.inj H
    go_wp2
    go_ret
    exact ⟨_, by first | rfl | (simp [errW_none, errW_some] <;> rfl) | (simp [*, errW_none, errW_some] <;> rfl), by (with_reducible repeat (first | apply Kd.R_alloc | apply Kd.R_drewN | apply Kd.R_drew)); exact HO_6.out, bl_ HB.out⟩
def impl_row.l0 : Nat → List Int → Int → List Int → Int → Int → Option (List Int)
 | 0, _, _, _, _, _ => none
 | k + 1, x0, x1, x5, x9, x10 => if x10 < x9 then ((impl_entries.f k x0 x10).bind fun t399 => (if 0 ≤ (wrap64 (x1 + 1)) then (if (wrap64 (x1 + 1)) < (t399.length : Int) then (if x5.length < 17592186044416 then (impl_row.l0 k x0 x1 (x5 ++ [rd t399 (wrap64 (x1 + 1))]) x9 (wrap64 (x10 + 1))) else (none)) else (none)) else (none))) else (some x5)
def impl_row.f (k : Nat) (l0 : List Int) (a1 : Int) : Option (List Int) := impl_row.l0 k l0 a1 (([] : List Int)) (l0.length : Int) 0
set_option maxHeartbeats 8000000 in
set_option maxRecDepth 100000 in
theorem impl_row.calls (k : Nat) (A0 : Option Addr) (c0 : Nat) (l0 : List Int) (a1 : Int) (r : List Int) (w : World) (hr0 : Kd.C (Kd.int .i64) w A0 l0.length l0) (hc0 : l0.length ≤ c0) (h : impl_row.f k l0 a1 = some r) :
  Calls Tryd.prog 43 #[.slice A0 l0.length c0, .int .i64 a1] w fun e w' => ∃ v0_ : Value, e = .returned (v0_) ∧ Kd.R (Kd.int .i64) 3 w' w.heap.size (fun _ => True) v0_ r ∧ Below w.heap.size w w' := by
 have HR0 := Aside0.mk hr0; have HC0 := Aside0.mk hc0; clear hr0 hc0; have HB := Aside0.mk (Below.refl w.heap.size w); have H : (impl_row.l0 k l0 a1 (([] : List Int)) (l0.length : Int) 0) = some r := h; clear h; obtain ⟨y396, hy396⟩ : ∃ y_ : List Int, y_ = (([] : List Int)) := ⟨_, rfl⟩; replace H : (impl_row.l0 k l0 a1 y396 (l0.length : Int) 0) = some r := rh_ hy396 H; have Ny396 := Aside0.mk hy396; clear hy396; have H' := Aside0.mk H; clear H
 go_enter Tryd.func43, Tryd.ntmps43
 go_wp2_with (first | ((with_reducible refine gate_dst (N := 7) rfl ?_); refine Kd.R_lit (Kd.int .i64) _ 3 ?hg (N := 7) ?hd (xs := ([] : List Int)) (inner := []) (ok := fun _ => True) (okp := fun _ => True) ?hr ?hp (fun _ hk => hk) trivial (Below.refl _ _) (Nat.le_refl _) (by simp) ?_; (case hd => rfl); (case hg => rfl); (case hr => first | (go_simp; done) | (go_simp; rfl)); (case hp => exact (Reps.none _ _)); intro v397 w3 ho4 hb hg_ hnew_; clear hg_ hnew_; (first | rw [← Ny396.out] at ho4 | (simp only [Int.reduceToNat] at ho4; rw [← Ny396.out] at ho4)); have n0_ := Aside0.mk (Kd.R_lower ho4 (below_size (bl_ HB.out))); have n1_ := Aside0.mk (below_step (bl_ HB.out) hb); clear HB; have HO398 := n0_; have HB := n1_; clear n0_ n1_; clear hb ho4))
 go_loopg [5, 10] k (fun kq v5 v10 w' => ∃ (x5_1 : List Int) (x10_1 : Int), v10 = .int .i64 x10_1 ∧ Aside0 (impl_row.l0 kq l0 a1 x5_1 (l0.length : Int) x10_1 = some r) ∧ Aside0 (kq ≤ k) ∧ Aside0 (Kd.R (Kd.int .i64) 3 w' w.heap.size (fun _ => True) v5 x5_1) ∧ Aside0 (Below w.heap.size w w'))
 case atStart => exact ⟨(y396), (0), (fs_), H', ⟨Nat.le_refl _⟩, ⟨kr_ HO398.out⟩, ⟨bl_ HB.out⟩⟩
 case round =>
  clear H'
  try clear p2
  try clear c4
  obtain ⟨x5_1, x10_1, rfl, HA, HK1, HO_5, HB⟩ := hrel
  cases gk with
  | zero => exact absurd HA.out (by simp [impl_row.l0])
  | succ k1 =>
   have H := HA.out; clear HA
   simp only [impl_row.l0] at H
   by_cases c5 : x10_1 < (l0.length : Int)
   ·rw [if_pos c5] at H
    have c5b0 : decide (x10_1 < (l0.length : Int)) = true := decide_eq_true c5; clear c5; replace H := Option.bind_eq_some_iff.mp H; obtain ⟨t399, A60, H⟩ := H; replace H : (if 0 ≤ (wrap64 (a1 + 1)) then (if (wrap64 (a1 + 1)) < (t399.length : Int) then (if x5_1.length < 17592186044416 then (impl_row.l0 k1 l0 a1 (x5_1 ++ [rd t399 (wrap64 (a1 + 1))]) (l0.length : Int) (wrap64 (x10_1 + 1))) else (none)) else (none)) else (none)) = some r := H
    have A6 := Aside0.mk A60; clear A60; obtain ⟨ji7, hji7⟩ : ∃ j_ : Int, (wrap64 (a1 + 1)) = j_ := ⟨_, rfl⟩; replace H : (if 0 ≤ (ji7) then (if (ji7) < (t399.length : Int) then (if x5_1.length < 17592186044416 then (impl_row.l0 k1 l0 a1 (x5_1 ++ [rd t399 (ji7)]) (l0.length : Int) (wrap64 (x10_1 + 1))) else (none)) else (none)) else (none)) = some r := by first | (rw [hji7] at H; exact H) | (simp only [hji7] at H ⊢; exact H)
    (try rw [hji7] at A6)
    have hji7w : (IntKind.i64.wrap (a1 + 1)) = ji7 := (i64_w _).trans hji7
    by_cases c8 : 0 ≤ (ji7)
    ·rw [if_pos c8] at H
     have c8b0 : decide (0 ≤ (ji7)) = true := decide_eq_true c8; clear c8
     by_cases c9 : (ji7) < (t399.length : Int)
     ·rw [if_pos c9] at H
      have c9b0 : decide ((ji7) < (t399.length : Int)) = true := decide_eq_true c9; clear c9
      by_cases c10 : x5_1.length < 17592186044416
      ·rw [if_pos c10] at H
       have LMc10 := Aside0.mk c10; clear c10; obtain ⟨y403, hy403⟩ : ∃ y_ : List Int, y_ = (x5_1 ++ [rd t399 (ji7)]) := ⟨_, rfl⟩; replace H : (impl_row.l0 k1 l0 a1 y403 (l0.length : Int) (wrap64 (x10_1 + 1))) = some r := rh_ hy403 H; have Ny403 := Aside0.mk hy403; clear hy403; have H' := Aside0.mk H; clear H
       go_wp2_with (first | ((with_reducible refine gate_callee (f := 56) rfl ?_); refine goesL_ (some 16) rfl rfl Tryd.func56 (by kernel_rfl) rfl #[.slice A0 l0.length c0, .int .i64 x10_1] rfl (by (try simp only [List.map_toArray, List.map_cons, List.map_nil]); first | done | rfl | (simp only [List.length_drop, List.length_take]; rfl)) ?_; (with_reducible refine (impl_entries.calls k1 _ _ l0 x10_1 t399 _ ?side1 ?side2 A6.out).mono ?_); (case side1 => repeat (first | exact (Kd.C_below HR0.out HB.out) | (with_reducible refine Kd.C_alloc ?_ _) | (with_reducible refine Kd.C_drewN ?_ _) | (with_reducible refine Kd.C_drew ?_))); (case side2 => exact HC0.out); rintro e w11 ⟨v400, rfl, ho0, hb⟩; refine ⟨_, rfl, ?_⟩; have n0_ := Aside0.mk (Kd.R_elder' (kr_ HO_5.out) (Kd.R_base ho0) hb); have n1_ := Aside0.mk (Kd.R_lower (Kd.R_new' ho0 (Kd.R_lt (kr_ HO_5.out))) (below_size (bl_ HB.out))); have n2_ := Aside0.mk (below_step (bl_ HB.out) hb); clear HO_5; clear HB; have HO_5 := n0_; have HO401 := n1_; have HB := n2_; clear n0_ n1_ n2_; (try clear hb); (try clear hb2); (try clear hk); (try clear hi); (try clear ho0); obtain ⟨Ao12, co12, eo12⟩ := Kd.R_slice HO401.out; subst eo12; have p402 : 0 ≤ ((ji7) : Int) := of_decide_eq_true as_; have q402 : (ji7) < (t399.length : Int) := of_decide_eq_true as_; obtain ⟨ad402, e402, hx402_0⟩ := Kd.at_int (Kd.R_reads' HO401.out).2.2 (ji7) p402 q402; cases e402; replace p402 := eq_true p402; replace q402 := eq_true q402) | ((with_reducible refine gate_builtin (b := .append) (xs := #[.tmp 13, .tmp 21]) rfl ?_); at_builtin; refine Kd.R_append (Kd.int .i64) (w0 := w) w.heap.size rfl (.tmp 13) (.tmp 21) 30 3 (.int .i64 0) 8 rfl Tryd.underlying30 info3 rfl (by decide) (by omega) u5 x5_1 (rd t399 (ji7)) [.int .i64 (rd t399 (ji7))] (fun k_ => some k_ ≠ (.slice (some ad402) t399.length co12 : Value).ownBlock) (fun _ => False) rfl rfl ?aP (fun _ hk => hk.elim) ?aF ?aO ?aB ?aS ?aL ?_; (case aP => exact rfl); (case aB => exact (bl_ HB.out)); (case aF => exact (fun k_ hk => Kd.fresh' (Kd.R_lt (kr_ HO401.out)) k_ hk)); (case aO => exact (by (with_reducible repeat (first | apply Kd.R_alloc | apply Kd.R_drewN | apply Kd.R_drew)); exact Kd.R_mono HO_5.out (fun _ hk => hk.2))); (case aS => exact (below_size (bl_ HB.out))); (case aL => have := LMc10.out; omega); intro v404 w13 ho hb hg hat; rw [← Ny403.out] at ho; have n0_ := Aside0.mk (Kd.R_after (ok := (fun _ => True)) (kr_ HO401.out) hg hat); have n1_ := Aside0.mk (hb); have n2_ := Aside0.mk (ho); clear HO401; clear HB; clear HO_5; have HO401 := n0_; have HB := n1_; have HO405 := n2_; clear n0_ n1_ n2_; clear ho hb hg hat))
       go_roundg k1
       case measure => have := HK1.out; omega
       case rel => exact ⟨(y403), (wrap64 (x10_1 + 1)), (fs_), H', ⟨by have := HK1.out; omega⟩, ⟨by (with_reducible repeat (first | apply Kd.R_alloc | apply Kd.R_drewN | apply Kd.R_drew)); exact Kd.R_mono HO405.out (fun _ hk => trivial)⟩, ⟨bl_ HB.out⟩⟩
      ·rw [if_neg c10] at H
       exact absurd H (by simp)
     ·rw [if_neg c9] at H
      exact absurd H (by simp)
    ·rw [if_neg c8] at H
     exact absurd H (by simp)
   ·rw [if_neg c5] at H
    have c5b0 : decide (x10_1 < (l0.length : Int)) = false := decide_eq_false c5; clear c5; obtain rfl := Option.some.inj H
    go_wp2
    go_ret
    exact ⟨_, by first | rfl | (simp [errW_none, errW_some] <;> rfl) | (simp [*, errW_none, errW_some] <;> rfl), by (with_reducible repeat (first | apply Kd.R_alloc | apply Kd.R_drewN | apply Kd.R_drew)); exact HO_5.out, bl_ HB.out⟩
def impl_frieze.l0 : Nat → List Int → List (List Int) → Int → Option ((List (List Int)))
 | 0, _, _, _ => none
 | k + 1, x0, x3, x4 => if x4 ≤ (wrap64 ((x0.length : Int) - 3)) then ((impl_row.f k x0 x4).bind fun t409 => (if x3.length < 5864062014805 then (impl_frieze.l0 k x0 (x3 ++ [t409]) (wrap64 (x4 + 1))) else (none))) else (some x3)
def impl_frieze.f (k : Nat) (l0 : List Int) : Option ((List (List Int))) := impl_frieze.l0 k l0 (([] : List (List Int))) 1
set_option maxHeartbeats 8000000 in
set_option maxRecDepth 100000 in
theorem impl_frieze.calls (k : Nat) (A0 : Option Addr) (c0 : Nat) (l0 : List Int) (r : List (List Int)) (w : World) (hr0 : Kd.C (Kd.int .i64) w A0 l0.length l0) (hc0 : l0.length ≤ c0) (h : impl_frieze.f k l0 = some r) :
  Calls Tryd.prog 31 #[.slice A0 l0.length c0] w fun e w' => ∃ v0_ : Value, e = .returned (v0_) ∧ Kd.S (Kd.slice 3 (Kd.int .i64)) 30 w' w.heap.size (fun _ => True) v0_ r ∧ Below w.heap.size w w' := by
 have HR0 := Aside0.mk hr0; have HC0 := Aside0.mk hc0; clear hr0 hc0; have HB := Aside0.mk (Below.refl w.heap.size w); have H : (impl_frieze.l0 k l0 (([] : List (List Int))) 1) = some r := h; clear h; obtain ⟨y406, hy406⟩ : ∃ y_ : List (List Int), y_ = (([] : List (List Int))) := ⟨_, rfl⟩; replace H : (impl_frieze.l0 k l0 y406 1) = some r := rh_ hy406 H; have Ny406 := Aside0.mk hy406; clear hy406; have H' := Aside0.mk H; clear H
 go_enter Tryd.func31, Tryd.ntmps31
 go_wp2_with (first | ((with_reducible refine gate_dst (N := 5) rfl ?_); refine Kd.S_lit (Kd.slice 3 (Kd.int .i64)) _ 30 ?hg (N := 5) ?hd (xs := ([] : List (List Int))) (inner := []) (ok := fun _ => True) (okp := fun _ => True) ?hr ?hp (fun _ hk => hk) trivial (Below.refl _ _) (Nat.le_refl _) (by simp) ?_; (case hd => rfl); (case hg => rfl); (case hr => first | (go_simp; done) | (go_simp; rfl)); (case hp => exact (Reps.none _ _)); intro v407 w2 ho3 hb hg_ hnew_; clear hg_ hnew_; (first | rw [← Ny406.out] at ho3 | (simp only [Int.reduceToNat] at ho3; rw [← Ny406.out] at ho3)); have n0_ := Aside0.mk (Kd.S_lower ho3 (below_size (bl_ HB.out))); have n1_ := Aside0.mk (below_step (bl_ HB.out) hb); clear HB; have HO408 := n0_; have HB := n1_; clear n0_ n1_; clear hb ho3))
 go_loopg [3, 4] k (fun kq v3 v4 w' => ∃ (x3_1 : List (List Int)) (x4_1 : Int), v4 = .int .i64 x4_1 ∧ Aside0 (impl_frieze.l0 kq l0 x3_1 x4_1 = some r) ∧ Aside0 (kq ≤ k) ∧ Aside0 (Kd.S (Kd.slice 3 (Kd.int .i64)) 30 w' w.heap.size (fun _ => True) v3 x3_1) ∧ Aside0 (Below w.heap.size w w'))
 case atStart => exact ⟨(y406), (1), (fs_), H', ⟨Nat.le_refl _⟩, ⟨by (with_reducible repeat (first | apply Kd.S_alloc | apply Kd.S_drewN | apply Kd.S_drew)); exact HO408.out⟩, ⟨bl_ HB.out⟩⟩
 case round =>
  clear H'
  try clear p2
  try clear c3
  obtain ⟨x3_1, x4_1, rfl, HA, HK1, HO_3, HB⟩ := hrel
  cases gk with
  | zero => exact absurd HA.out (by simp [impl_frieze.l0])
  | succ k1 =>
   have H := HA.out; clear HA
   simp only [impl_frieze.l0] at H
   by_cases c4 : x4_1 ≤ (wrap64 ((l0.length : Int) - 3))
   ·rw [if_pos c4] at H
    have c4b0 : decide (x4_1 ≤ (wrap64 ((l0.length : Int) - 3))) = true := decide_eq_true c4; clear c4; replace H := Option.bind_eq_some_iff.mp H; obtain ⟨t409, A50, H⟩ := H; replace H : (if x3_1.length < 5864062014805 then (impl_frieze.l0 k1 l0 (x3_1 ++ [t409]) (wrap64 (x4_1 + 1))) else (none)) = some r := H
    have A5 := Aside0.mk A50; clear A50
    by_cases c6 : x3_1.length < 5864062014805
    ·rw [if_pos c6] at H
     have LMc6 := Aside0.mk c6; clear c6; obtain ⟨y412, hy412⟩ : ∃ y_ : List (List Int), y_ = (x3_1 ++ [t409]) := ⟨_, rfl⟩; replace H : (impl_frieze.l0 k1 l0 y412 (wrap64 (x4_1 + 1))) = some r := rh_ hy412 H; have Ny412 := Aside0.mk hy412; clear hy412; have H' := Aside0.mk H; clear H
     go_wp2_with (first | ((with_reducible refine gate_callee (f := 43) rfl ?_); refine goesL_ (some 16) rfl rfl Tryd.func43 (by kernel_rfl) rfl #[.slice A0 l0.length c0, .int .i64 x4_1] rfl (by (try simp only [List.map_toArray, List.map_cons, List.map_nil]); first | done | rfl | (simp only [List.length_drop, List.length_take]; rfl)) ?_; (with_reducible refine (impl_row.calls k1 _ _ l0 x4_1 t409 _ ?side1 ?side2 A5.out).mono ?_); (case side1 => repeat (first | exact (Kd.C_below HR0.out HB.out) | (with_reducible refine Kd.C_alloc ?_ _) | (with_reducible refine Kd.C_drewN ?_ _) | (with_reducible refine Kd.C_drew ?_))); (case side2 => exact HC0.out); rintro e w7 ⟨v410, rfl, ho0, hb⟩; refine ⟨_, rfl, ?_⟩; have n0_ := Aside0.mk (Kd.S_elder' (by (with_reducible repeat (first | apply Kd.S_alloc | apply Kd.S_drewN | apply Kd.S_drew)); exact HO_3.out) (Kd.R_base ho0) hb); have n1_ := Aside0.mk (Kd.R_lower ho0 (below_size (bl_ HB.out))); have n2_ := Aside0.mk (below_step (bl_ HB.out) hb); clear HO_3; clear HB; have HO_3 := n0_; have HO411 := n1_; have HB := n2_; clear n0_ n1_ n2_; (try clear hb); (try clear hb2); (try clear hk); (try clear hi); (try clear ho0); obtain ⟨Ao9, co9, eo9⟩ := Kd.R_slice HO411.out; subst eo9) | ((with_reducible refine gate_builtin (b := .append) (xs := #[.tmp 13, .tmp 17]) rfl ?_); at_builtin; refine Kd.S_append (Kd.slice 3 (Kd.int .i64)) (w0 := w) w.heap.size rfl (.tmp 13) (.tmp 17) 22 30 (.slice none 0 0) 24 rfl Tryd.underlying22 info30 rfl (by decide) (by omega) u3 x3_1 t409 [.slice Ao9 t409.length co9] (fun _ => True) (fun k_ => some k_ = (.slice Ao9 t409.length co9 : Value).ownBlock) rfl rfl ?aP (fun k_ hk_ => ((Kd.R_mono (ok' := fun k_ => ((fun _ => True)) k_ ∧ some k_ ≠ (u3 : Value).ownBlock) (Kd.R_apart' (HO411.out) (Kd.S_typed HO_3.out) (by decide)) (fun k_ hk => ⟨trivial, hk.2⟩))).1 k_ hk_.symm) ?aF ?aO ?aB ?aS ?aL ?_; (case aP => exact Kd.M_row (Kd.R_mono (Kd.R_tight rfl (Kd.R_mono (ok' := fun k_ => ((fun _ => True)) k_ ∧ some k_ ≠ (u3 : Value).ownBlock) (Kd.R_apart' (HO411.out) (Kd.S_typed HO_3.out) (by decide)) (fun k_ hk => ⟨trivial, hk.2⟩))) (fun _ h_ => h_))); (case aB => exact (bl_ HB.out)); (case aF => exact (fun _ _ => trivial)); (case aO => exact (by (with_reducible repeat (first | apply Kd.S_alloc | apply Kd.S_drewN | apply Kd.S_drew)); exact Kd.S_mono HO_3.out (fun k_ hk => ⟨trivial, fun e_ => hk.2 e_⟩))); (case aS => exact (below_size (bl_ HB.out))); (case aL => have := LMc6.out; omega); intro v413 w8 ho hb hg hat; rw [← Ny412.out] at ho; have n0_ := Aside0.mk (hb); have n1_ := Aside0.mk (ho); clear HB; clear HO_3; clear HO411; have HB := n0_; have HO414 := n1_; clear n0_ n1_; clear ho hb hg hat))
     go_roundg k1
     case measure => have := HK1.out; omega
     case rel => exact ⟨(y412), (wrap64 (x4_1 + 1)), (fs_), H', ⟨by have := HK1.out; omega⟩, ⟨by (with_reducible repeat (first | apply Kd.S_alloc | apply Kd.S_drewN | apply Kd.S_drew)); exact HO414.out⟩, ⟨bl_ HB.out⟩⟩
    ·rw [if_neg c6] at H
     exact absurd H (by simp)
   ·rw [if_neg c4] at H
    have c4b0 : decide (x4_1 ≤ (wrap64 ((l0.length : Int) - 3))) = false := decide_eq_false c4; clear c4; obtain rfl := Option.some.inj H
    go_wp2
    go_ret
    exact ⟨_, by first | rfl | (simp [errW_none, errW_some] <;> rfl) | (simp [*, errW_none, errW_some] <;> rfl), by (with_reducible repeat (first | apply Kd.S_alloc | apply Kd.S_drewN | apply Kd.S_drew)); exact HO_3.out, bl_ HB.out⟩
def slices_EqualFunc_int_int_int_int__at_slices_Equal_int_int.l0 : Nat → List (List Int) → List (List Int) → Int → Int → Option (Bool)
 | 0, _, _, _, _ => none
 | k + 1, x1, x15, x16, x17 => if x17 < x16 then (if 0 ≤ x17 then (if x17 < (x15.length : Int) then (if x17 < (x1.length : Int) then ((slices_Equal_int_int.f k (rd_L1 x15 x17) (rd_L1 x1 x17)).bind fun t417 => (if t417 = true then (slices_EqualFunc_int_int_int_int__at_slices_Equal_int_int.l0 k x1 x15 x16 (wrap64 (x17 + 1))) else (some false))) else (none)) else (none)) else (none)) else (some true)
def slices_EqualFunc_int_int_int_int__at_slices_Equal_int_int.f (k : Nat) (l0 : List (List Int)) (l1 : List (List Int))  : Option (Bool) := if (l0.length : Int) = (l1.length : Int) then (slices_EqualFunc_int_int_int_int__at_slices_Equal_int_int.l0 k l1 l0 (l0.length : Int) 0) else (some false)
set_option maxHeartbeats 8000000 in
set_option maxRecDepth 100000 in
theorem slices_EqualFunc_int_int_int_int__at_slices_Equal_int_int.calls (k : Nat) (A0 : Option Addr) (c0 : Nat) (l0 : List (List Int)) (A1 : Option Addr) (c1 : Nat) (l1 : List (List Int))  (r : Bool) (w : World) (hr0 : Kd.C (Kd.slice 3 (Kd.int .i64)) w A0 l0.length l0) (hc0 : l0.length ≤ c0) (hr1 : Kd.C (Kd.slice 3 (Kd.int .i64)) w A1 l1.length l1) (hc1 : l1.length ≤ c1) (h : slices_EqualFunc_int_int_int_int__at_slices_Equal_int_int.f k l0 l1 = some r) :
  Calls Tryd.prog 30 #[.slice A0 l0.length c0, .slice A1 l1.length c1, .func (.func 32) #[] #[]] w fun e w' => e = .returned (.bool r) ∧ Drawn0 w w' := by
 have HR0 := Aside0.mk hr0; have HC0 := Aside0.mk hc0; clear hr0 hc0; have HR1 := Aside0.mk hr1; have HC1 := Aside0.mk hc1; clear hr1 hc1; have H : (if (l0.length : Int) = (l1.length : Int) then (slices_EqualFunc_int_int_int_int__at_slices_Equal_int_int.l0 k l1 l0 (l0.length : Int) 0) else (some false)) = some r := h
 clear h
 by_cases c4 : (l0.length : Int) = (l1.length : Int)
 ·rw [if_pos c4] at H
  have c4b0 : ((l0.length : Int) == (l1.length : Int)) = true := beq_iff_eq.mpr c4; have c4b1 : ((l0.length : Int) != (l1.length : Int)) = false := bne_eq_false_iff_eq.mpr c4; have c4b2 : (l0.length == l1.length) = true := by first | simpa using c4 | (simp at c4 ⊢; omega)
  clear c4; have H' := Aside0.mk H; clear H
  go_enter Tryd.func30, Tryd.ntmps30
  go_wp2
  go_loopg [17] k (fun kq v17 w' => ∃ (x17_1 : Int), v17 = .int .i64 x17_1 ∧ Aside0 (slices_EqualFunc_int_int_int_int__at_slices_Equal_int_int.l0 kq l1 l0 (l0.length : Int) x17_1 = some r) ∧ Aside0 (kq ≤ k) ∧ Drawn0 w w')
  case atStart => exact ⟨(0), (fs_), H', ⟨Nat.le_refl _⟩, dr_⟩
  case round =>
   clear H'
   try clear c1
   try clear p2
   try clear c4
   try clear c4b0
   try clear c4b1
   try clear c4b2
   obtain ⟨x17_1, rfl, HA, HK1, ⟨m1, rfl⟩⟩ := hrel
   cases gk with
   | zero => exact absurd HA.out (by simp [slices_EqualFunc_int_int_int_int__at_slices_Equal_int_int.l0])
   | succ k1 =>
    have H := HA.out; clear HA
    simp only [slices_EqualFunc_int_int_int_int__at_slices_Equal_int_int.l0] at H
    by_cases c5 : x17_1 < (l0.length : Int)
    ·rw [if_pos c5] at H
     have c5b0 : decide (x17_1 < (l0.length : Int)) = true := decide_eq_true c5; clear c5
     by_cases c6 : 0 ≤ x17_1
     ·rw [if_pos c6] at H
      have c6b0 : decide (0 ≤ x17_1) = true := decide_eq_true c6; clear c6
      by_cases c7 : x17_1 < (l0.length : Int)
      ·rw [if_pos c7] at H
       have c7b0 : decide (x17_1 < (l0.length : Int)) = true := decide_eq_true c7; clear c7
       by_cases c8 : x17_1 < (l1.length : Int)
       ·rw [if_pos c8] at H
        have c8b0 : decide (x17_1 < (l1.length : Int)) = true := decide_eq_true c8; clear c8; replace H := Option.bind_eq_some_iff.mp H; obtain ⟨t417, A90, H⟩ := H; replace H : (if t417 = true then (slices_EqualFunc_int_int_int_int__at_slices_Equal_int_int.l0 k1 l1 l0 (l0.length : Int) (wrap64 (x17_1 + 1))) else (some false)) = some r := H
        have A9 := Aside0.mk A90; clear A90
        by_cases c10 : t417 = true
        ·subst c10
         have H1 : (slices_EqualFunc_int_int_int_int__at_slices_Equal_int_int.l0 k1 l1 l0 (l0.length : Int) (wrap64 (x17_1 + 1))) = some r := by rw [if_pos rfl] at H; exact H
         clear H; have H := H1; clear H1; have H' := Aside0.mk H; clear H; have p415 : 0 ≤ (x17_1 : Int) := of_decide_eq_true as_; have q415 : x17_1 < (l0.length : Int) := of_decide_eq_true as_; obtain ⟨ad415, A415_0, c415_0, e415, hx415_0, hl415_0, hi415_0⟩ := at_L1 HR0.out x17_1 p415 q415
         cases e415
         have HR415_0 := Aside0.mk hi415_0; have HC415_0 := Aside0.mk hl415_0; clear hi415_0 hl415_0; replace p415 := eq_true p415; replace q415 := eq_true q415; have p416 : 0 ≤ (x17_1 : Int) := of_decide_eq_true as_; have q416 : x17_1 < (l1.length : Int) := of_decide_eq_true as_; obtain ⟨ad416, A416_0, c416_0, e416, hx416_0, hl416_0, hi416_0⟩ := at_L1 HR1.out x17_1 p416 q416
         cases e416
         have HR416_0 := Aside0.mk hi416_0; have HC416_0 := Aside0.mk hl416_0; clear hi416_0 hl416_0; replace p416 := eq_true p416; replace q416 := eq_true q416
         go_wp2_with (first | (go_at_call 32; (with_reducible refine (slices_Equal_int_int.calls k1 _ _ (rd_L1 l0 x17_1) _ _ (rd_L1 l1 x17_1) true _ ?side1 ?side2 ?side3 ?side4 A9.out).mono ?_); (case side1 => repeat (first | exact HR415_0.out | (with_reducible refine Kd.C_alloc ?_ _) | (with_reducible refine Kd.C_drewN ?_ _) | (with_reducible refine Kd.C_drew ?_))); (case side2 => exact HC415_0.out); (case side3 => repeat (first | exact HR416_0.out | (with_reducible refine Kd.C_alloc ?_ _) | (with_reducible refine Kd.C_drewN ?_ _) | (with_reducible refine Kd.C_drew ?_))); (case side4 => exact HC416_0.out); rintro e w' ⟨rfl, ⟨nd, rfl⟩⟩))
         go_roundg k1
         case measure => have := HK1.out; omega
         case rel => exact ⟨(wrap64 (x17_1 + 1)), (fs_), H', ⟨by have := HK1.out; omega⟩, dr_⟩
        ·replace c10 := Bool.eq_false_iff.mpr c10
         subst c10; have H1 : (some false) = some r := by rw [if_neg (show ¬ (false = true) by decide)] at H; exact H
         clear H; have H := H1; clear H1; obtain rfl := Option.some.inj H; have p415 : 0 ≤ (x17_1 : Int) := of_decide_eq_true as_; have q415 : x17_1 < (l0.length : Int) := of_decide_eq_true as_; obtain ⟨ad415, A415_0, c415_0, e415, hx415_0, hl415_0, hi415_0⟩ := at_L1 HR0.out x17_1 p415 q415
         cases e415
         have HR415_0 := Aside0.mk hi415_0; have HC415_0 := Aside0.mk hl415_0; clear hi415_0 hl415_0; replace p415 := eq_true p415; replace q415 := eq_true q415; have p416 : 0 ≤ (x17_1 : Int) := of_decide_eq_true as_; have q416 : x17_1 < (l1.length : Int) := of_decide_eq_true as_; obtain ⟨ad416, A416_0, c416_0, e416, hx416_0, hl416_0, hi416_0⟩ := at_L1 HR1.out x17_1 p416 q416
         cases e416
         have HR416_0 := Aside0.mk hi416_0; have HC416_0 := Aside0.mk hl416_0; clear hi416_0 hl416_0; replace p416 := eq_true p416; replace q416 := eq_true q416
         go_wp2_with (first | (go_at_call 32; (with_reducible refine (slices_Equal_int_int.calls k1 _ _ (rd_L1 l0 x17_1) _ _ (rd_L1 l1 x17_1) false _ ?side1 ?side2 ?side3 ?side4 A9.out).mono ?_); (case side1 => repeat (first | exact HR415_0.out | (with_reducible refine Kd.C_alloc ?_ _) | (with_reducible refine Kd.C_drewN ?_ _) | (with_reducible refine Kd.C_drew ?_))); (case side2 => exact HC415_0.out); (case side3 => repeat (first | exact HR416_0.out | (with_reducible refine Kd.C_alloc ?_ _) | (with_reducible refine Kd.C_drewN ?_ _) | (with_reducible refine Kd.C_drew ?_))); (case side4 => exact HC416_0.out); rintro e w' ⟨rfl, ⟨nd, rfl⟩⟩))
         go_ret
         exact ⟨fs_, dr_⟩
       ·rw [if_neg c8] at H
        exact absurd H (by simp)
      ·rw [if_neg c7] at H
       exact absurd H (by simp)
     ·rw [if_neg c6] at H
      exact absurd H (by simp)
    ·rw [if_neg c5] at H
     have c5b0 : decide (x17_1 < (l0.length : Int)) = false := decide_eq_false c5; clear c5; obtain rfl := Option.some.inj H
     go_wp2
     go_ret
     exact ⟨fs_, dr_⟩
 ·rw [if_neg c4] at H
  have c4b0 : ((l0.length : Int) == (l1.length : Int)) = false := beq_eq_false_iff_ne.mpr c4; have c4b1 : ((l0.length : Int) != (l1.length : Int)) = true := bne_iff_ne.mpr c4; have c4b2 : (l0.length == l1.length) = false := by first | simpa using c4 | (simp at c4 ⊢; omega)
  obtain rfl := Option.some.inj H
  go_enter Tryd.func30, Tryd.ntmps30
  go_wp2
  go_ret
  exact ⟨fs_, dr_⟩
end Go.Proofs.YtmpmmhmnjdkgcaaDoor.PFnExactFriezeText
