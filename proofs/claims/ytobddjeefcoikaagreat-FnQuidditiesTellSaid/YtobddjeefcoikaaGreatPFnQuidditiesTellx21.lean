-- Written for this claim by a program of this session (wip/tools/xprint.py over the kit's printer, wip/tools/shrink.py).
import Derived.Test.YtobddjeefcoikaaGreatPFnQuidditiesTellx0
import Derived.Test.YtobddjeefcoikaaGreatPFnQuidditiesTellx15
import Derived.Test.YtobddjeefcoikaaGreatPFnQuidditiesTellx18
import Derived.Test.YtobddjeefcoikaaGreatPFnQuidditiesTellx19
import Derived.Test.YtobddjeefcoikaaGreatPFnQuidditiesTellx20
namespace Go.Proofs.YtobddjeefcoikaaGreat.PFnQuidditiesTell
open Go.RowKit Go.Proofs.YtobddjeefcoikaaGreatW.PrintWords Go.Proofs.YtobddjeefcoikaaGreatW.PrintLast Go.Proofs.YtobddjeefcoikaaGreatW.PrintMore
attribute [local go_sem] max2_int min2_int max_two min_two max_three min_three max_four min_four   -- for this text's walks alone
set_option linter.unusedVariables false
set_option linter.unusedSimpArgs false
def impl_Diagonal__at_impl_compareDiagonals_87.l0 : Nat → List (S46) → Int → Int → Option ((List (S46)))
 | 0, _, _, _ => none
 | k + 1, x0, x1, x2 => if (wrap64 (x2 - x1)) ≤ 12 then ((impl_Diagonal__at_impl_compareDiagonals_94.f k x0 x1 x2).bind fun t493 => (some t493)) else (none)
def impl_Diagonal__at_impl_compareDiagonals_87.f (k : Nat) (l0 : List (S46)) (a1 : Int) (a2 : Int) (a3 : Int)  : Option ((List (S46))) := impl_Diagonal__at_impl_compareDiagonals_87.l0 k l0 a1 a2
set_option maxHeartbeats 8000000 in
set_option maxRecDepth 100000 in
theorem impl_Diagonal__at_impl_compareDiagonals_87.calls (k : Nat) (P0_ : Nat → Prop) (u9000_ : Value) (l0 : List (S46)) (a1 : Int) (a2 : Int) (a3 : Int)  (r : List (S46)) (w0 w : World) (hB : Below w0.heap.size w0 w) (ho0 : Kd.R k46 46 w w0.heap.size P0_ u9000_ l0) (h : impl_Diagonal__at_impl_compareDiagonals_87.f k l0 a1 a2 a3 = some r) :
  Calls Tryz.prog 87 #[u9000_, .int .i64 a1, .int .i64 a2, .int .i64 a3, .func (.func 48) #[] #[]] w fun e w' => e = .returned (.tuple #[]) ∧ Kd.R k46 46 w' w0.heap.size (fun k_ => (P0_ k_ ∨ w.heap.size ≤ k_)) u9000_ r ∧ Below w0.heap.size w0 w' ∧ Kept w w' (fun k_ => P0_ k_) := by
 have hu46 := Tryz.underlying46; have HO0 := Aside0.mk (show Kd.R k46 46 w w0.heap.size (fun k_ => (P0_ k_ ∨ w.heap.size ≤ k_)) u9000_ l0 from Kd.R_mono ho0 (fun k_ hk => (.inl hk)))
 have HK := Aside0.mk (Kept.refl w (fun k_ => P0_ k_))
 have HW0 := Aside0.mk hB.size; have HB := Aside0.mk hB; clear hB; have H : (impl_Diagonal__at_impl_compareDiagonals_87.l0 k l0 a1 a2) = some r := h; clear h; have H' := Aside0.mk H; clear H
 go_enter Tryz.func87, Tryz.ntmps87
 go_wp2
 go_loopg [1, 2] k (fun kq v1 v2 w' => ∃ (x0_1 : List (S46)) (x1_1 : Int) (x2_1 : Int), v1 = .int .i64 x1_1 ∧ v2 = .int .i64 x2_1 ∧ Aside0 (impl_Diagonal__at_impl_compareDiagonals_87.l0 kq x0_1 x1_1 x2_1 = some r) ∧ Aside0 (kq ≤ k) ∧ Aside0 (Kd.R k46 46 w' w0.heap.size (fun k_ => (P0_ k_ ∨ w.heap.size ≤ k_)) u9000_ x0_1) ∧ Aside0 (Kept w w' (fun k_ => P0_ k_)) ∧ Aside0 (Below w0.heap.size w0 w'))
 case atStart => exact ⟨(l0), (a1), (a2), (fs_), (fs_), H', ⟨Nat.le_refl _⟩, ⟨kr_ HO0.out⟩, ⟨by repeat (first | (with_reducible first | exact HK.out | apply Kept.alloc | apply Kept.drewN | apply Kept.drew) | exact HK.out)⟩, ⟨bl_ HB.out⟩⟩
 case round =>
  clear H'
  try clear p2
  obtain ⟨x0_1, x1_1, x2_1, rfl, rfl, HA, HK1, HO_0, HK, HB⟩ := hrel
  cases gk with
  | zero => exact absurd HA.out (by simp [impl_Diagonal__at_impl_compareDiagonals_87.l0])
  | succ k1 =>
   have H := HA.out; clear HA
   simp only [impl_Diagonal__at_impl_compareDiagonals_87.l0] at H
   by_cases c6 : (wrap64 (x2_1 - x1_1)) ≤ 12
   ·rw [if_pos c6] at H
    have c6b0 : decide ((wrap64 (x2_1 - x1_1)) ≤ 12) = true := decide_eq_true c6; clear c6; replace H := Option.bind_eq_some_iff.mp H; obtain ⟨t493, A70, H⟩ := H; have A7 := Aside0.mk A70; clear A70; obtain rfl := Option.some.inj H; obtain ⟨Ao8, co8, eo8⟩ := Kd.R_slice HO_0.out; subst eo8
    go_wp2_with (first | ((with_reducible refine gate_callee (f := 94) rfl ?_); refine gl_ (some 30) Tryz.func94 #[.slice Ao8 x0_1.length co8, .int .i64 x1_1, .int .i64 x2_1, .func (.func 48) #[] #[]] rfl ?_; (with_reducible refine (impl_Diagonal__at_impl_compareDiagonals_94.calls k1 (fun k_ => some k_ = (.slice Ao8 x0_1.length co8 : Value).ownBlock) (.slice Ao8 x0_1.length co8) x0_1 x1_1 x2_1  t493 w0 _ ?side1 ?side2 A7.out).mono ?_); (case side1 => exact bl_ HB.out); (case side2 => exact Kd.R_tight rfl HO_0.out); rintro e w9 ⟨rfl, hy0, hb, hkp⟩; refine ⟨_, rfl, ?_⟩; replace HK := Aside0.mk (Kept.then_ (S := (fun k_ => P0_ k_)) (by repeat (first | (with_reducible first | exact HK.out | apply Kept.alloc | apply Kept.drewN | apply Kept.drew) | exact HK.out)) hkp (fun k_ hs_ => (fun e_ => (HO_0.out.1 k_ e_.symm)) hs_)); replace HO_0 := Aside0.mk (Kd.R_reok rfl hy0 (fun k_ e_ => HO_0.out.1 k_ e_)); replace HB := Aside0.mk (hb); (try clear hb); (try clear hkp); (try clear hy0)))
    first | go_end0 | ((try simp only [Exit.inBlock, Exit.then]); refine bodyPost_ret (results_none rfl _ _ _) rfl ?_)
    exact ⟨by first | rfl | (simp [errW_none, errW_some] <;> rfl) | (simp [*, errW_none, errW_some] <;> rfl), by (with_reducible repeat (first | apply Kd.R_alloc | apply Kd.R_drewN | apply Kd.R_drew)); exact HO_0.out, bl_ HB.out, by repeat (first | (with_reducible first | exact HK.out | apply Kept.alloc | apply Kept.drewN | apply Kept.drew) | exact HK.out)⟩
   ·rw [if_neg c6] at H
    exact absurd H (by simp)
def impl_Diagonal__at_impl_compareDiagonals_75.f (k : Nat) (l0 : List (S46))  : Option ((List (S46))) := (bits_Len.f k (IntKind.u64.wrap ((l0.length : Int)))).bind fun t494 => ((impl_Diagonal__at_impl_compareDiagonals_87.f k l0 0 (l0.length : Int) t494).bind fun t495 => (some t495))
set_option maxHeartbeats 8000000 in
set_option maxRecDepth 100000 in
theorem impl_Diagonal__at_impl_compareDiagonals_75.calls (k : Nat) (P0_ : Nat → Prop) (u9000_ : Value) (l0 : List (S46))  (r : List (S46)) (w0 w : World) (hB : Below w0.heap.size w0 w) (ho0 : Kd.R k46 46 w w0.heap.size P0_ u9000_ l0) (h : impl_Diagonal__at_impl_compareDiagonals_75.f k l0 = some r) :
  Calls Tryz.prog 75 #[u9000_, .func (.func 48) #[] #[]] w fun e w' => e = .returned (.tuple #[]) ∧ Kd.R k46 46 w' w0.heap.size (fun k_ => (P0_ k_ ∨ w.heap.size ≤ k_)) u9000_ r ∧ Below w0.heap.size w0 w' ∧ Kept w w' (fun k_ => P0_ k_) := by
 have HO0 := Aside0.mk (show Kd.R k46 46 w w0.heap.size (fun k_ => (P0_ k_ ∨ w.heap.size ≤ k_)) u9000_ l0 from Kd.R_mono ho0 (fun k_ hk => (.inl hk)))
 have HK := Aside0.mk (Kept.refl w (fun k_ => P0_ k_))
 have HW0 := Aside0.mk hB.size; have HB := Aside0.mk hB; clear hB; have H : ((bits_Len.f k (IntKind.u64.wrap ((l0.length : Int)))).bind fun t494 => ((impl_Diagonal__at_impl_compareDiagonals_87.f k l0 0 (l0.length : Int) t494).bind fun t495 => (some t495))) = some r := h
 clear h; replace H := Option.bind_eq_some_iff.mp H; obtain ⟨t494, A30, H⟩ := H; have A3 := Aside0.mk A30; clear A30; replace H := Option.bind_eq_some_iff.mp H; obtain ⟨t495, A40, H⟩ := H; have A4 := Aside0.mk A40; clear A40; obtain rfl := Option.some.inj H; obtain ⟨Ao5, co5, eo5⟩ := Kd.R_slice HO0.out; subst eo5
 go_enter Tryz.func75, Tryz.ntmps75
 go_wp2_with (first | ((with_reducible refine gate_callee (f := 88) rfl ?_); refine gl_ (some 11) Tryz.func88 #[.int .u64 (IntKind.u64.wrap ((l0.length : Int)))] rfl ?_; (with_reducible refine (bits_Len.calls k (IntKind.u64.wrap ((l0.length : Int))) t494 _ A3.out).mono ?_); rintro e w' ⟨rfl, ⟨nd, rfl⟩⟩; refine ⟨_, rfl, ?_⟩) | ((with_reducible refine gate_callee (f := 87) rfl ?_); refine gl_ (some 13) Tryz.func87 #[.slice Ao5 l0.length co5, .int .i64 0, .int .i64 (l0.length : Int), .int .i64 t494, .func (.func 48) #[] #[]] rfl ?_; (with_reducible refine (impl_Diagonal__at_impl_compareDiagonals_87.calls k (fun k_ => some k_ = (.slice Ao5 l0.length co5 : Value).ownBlock) (.slice Ao5 l0.length co5) l0 0 (l0.length : Int) t494  t495 w0 _ ?side1 ?side2 A4.out).mono ?_); (case side1 => exact bl_ HB.out); (case side2 => exact Kd.R_tight rfl HO0.out); rintro e w6 ⟨rfl, hy0, hb, hkp⟩; refine ⟨_, rfl, ?_⟩; replace HK := Aside0.mk (Kept.then_ (S := (fun k_ => P0_ k_)) (by repeat (first | (with_reducible first | exact HK.out | apply Kept.alloc | apply Kept.drewN | apply Kept.drew) | exact HK.out)) hkp (fun k_ hs_ => (fun e_ => (HO0.out.1 k_ e_.symm)) hs_)); replace HO0 := Aside0.mk (Kd.R_reok rfl hy0 (fun k_ e_ => HO0.out.1 k_ e_)); replace HB := Aside0.mk (hb); (try clear hb); (try clear hkp); (try clear hy0)))
 first | go_end0 | ((try simp only [Exit.inBlock, Exit.then]); refine bodyPost_ret (results_none rfl _ _ _) rfl ?_)
 exact ⟨by first | rfl | (simp [errW_none, errW_some] <;> rfl) | (simp [*, errW_none, errW_some] <;> rfl), by (with_reducible repeat (first | apply Kd.R_alloc | apply Kd.R_drewN | apply Kd.R_drew)); exact HO0.out, bl_ HB.out, by repeat (first | (with_reducible first | exact HK.out | apply Kept.alloc | apply Kept.drewN | apply Kept.drew) | exact HK.out)⟩
def impl_renamed_at_impl_turned_1.l0 (k_ n_ : Int) : Nat → List (S46) → List (S46) → Int → Int → Option ((List (S46)))
 | 0, _, _, _, _ => none
 | k + 1, x5, x11, x12, x13 => if x13 < x12 then (if 0 ≤ x13 then (if x13 < (x11.length : Int) then ((impl_turned_1.f ((rd_T46 x11 x13).f0) k_ n_).bind fun t501 => ((impl_turned_1.f ((rd_T46 x11 x13).f1) k_ n_).bind fun t502 => (if x5.length < 8796093022208 then (impl_renamed_at_impl_turned_1.l0 k_ n_ k (x5 ++ [(⟨mn t501 t502, mx t501 t502⟩ : S46)]) x11 x12 (wrap64 (x13 + 1))) else (none)))) else (none)) else (none)) else ((impl_Diagonal__at_impl_compareDiagonals_75.f k x5).bind fun t506 => (some t506))
def impl_renamed_at_impl_turned_1.f (k_ n_ : Int) (k : Nat) (l0 : List (S46))  : Option ((List (S46))) := impl_renamed_at_impl_turned_1.l0 k_ n_ k (([] : List (S46))) l0 (l0.length : Int) 0
set_option maxHeartbeats 8000000 in
set_option maxRecDepth 100000 in
theorem impl_renamed_at_impl_turned_1.calls (k_ n_ : Int) (g0_ g1_ : Nat) (k : Nat) (A0 : Option Addr) (c0 : Nat) (l0 : List (S46))  (r : List (S46)) (w : World) (hr0 : Kd.C k46 w A0 l0.length l0) (hc0 : l0.length ≤ c0) (h : impl_renamed_at_impl_turned_1.f k_ n_ k l0 = some r) (hg0 : w.heap[g0_]? = some (.cells #[.int .i64 k_] 3 (0, 0))) (hg1 : w.heap[g1_]? = some (.cells #[.int .i64 n_] 3 (0, 0))) :
  Calls Tryz.prog 66 #[.slice A0 l0.length c0, .func (.func 67) #[] #[.pointer (some ⟨g0_, 0, none⟩), .pointer (some ⟨g1_, 0, none⟩)]] w fun e w' => ∃ v0_ : Value, e = .returned (v0_) ∧ Kd.R k46 46 w' w.heap.size (fun _ => True) v0_ r ∧ Below w.heap.size w w' := by
 have HG0_ := Aside0.mk hg0; clear hg0; have HG1_ := Aside0.mk hg1; clear hg1; have hu46 := Tryz.underlying46; have HR0 := Aside0.mk hr0; have HC0 := Aside0.mk hc0; clear hr0 hc0; have HB := Aside0.mk (Below.refl w.heap.size w); have H : (impl_renamed_at_impl_turned_1.l0 k_ n_ k (([] : List (S46))) l0 (l0.length : Int) 0) = some r := h; clear h; obtain ⟨y496, hy496⟩ : ∃ y_ : List (S46), y_ = (([] : List (S46))) := ⟨_, rfl⟩; replace H : (impl_renamed_at_impl_turned_1.l0 k_ n_ k y496 l0 (l0.length : Int) 0) = some r := rh_ hy496 H; have Ny496 := Aside0.mk hy496; clear hy496; have H' := Aside0.mk H; clear H
 go_enter Tryz.func66, Tryz.ntmps66
 iterate 2 ((try go_wp2_with (first | ((with_reducible refine gate_dst (N := 10) rfl ?_); refine Kd.R_lit k46 _ 46 ?hg (N := 10) ?hd (xs := ([] : List (S46))) (inner := []) (ok := fun _ => True) (okp := fun _ => True) ?hr ?hp (fun _ hk => hk) trivial (Below.refl _ _) (Nat.le_refl _) (by simp) ?_; (case hd => rfl); (case hg => rfl); (case hr => first | (go_simp; done) | (go_simp; rfl)); (case hp => exact (Reps.none _ _)); intro v497 w3 ho4 hb hg_ hnew_; clear hg_ hnew_; (first | rw [← Ny496.out] at ho4 | (simp only [Int.reduceToNat] at ho4; rw [← Ny496.out] at ho4)); have HO498 := Aside0.mk (Kd.R_lower ho4 (below_size (bl_ HB.out))); replace HB := Aside0.mk (below_step (bl_ HB.out) hb); clear hb ho4))); try go_quiet (fail))
 go_loopg [5, 13] k (fun kq v5 v13 w' => ∃ (x5_1 : List (S46)) (x13_1 : Int), v13 = .int .i64 x13_1 ∧ Aside0 (impl_renamed_at_impl_turned_1.l0 k_ n_ kq x5_1 l0 (l0.length : Int) x13_1 = some r) ∧ Aside0 (kq ≤ k) ∧ Aside0 (Kd.R k46 46 w' w.heap.size (fun _ => True) v5 x5_1) ∧ Aside0 (Below w.heap.size w w'))
 case atStart => exact ⟨(y496), (0), (fs_), H', ⟨Nat.le_refl _⟩, ⟨kr_ HO498.out⟩, ⟨bl_ HB.out⟩⟩
 case round =>
  clear H'
  try clear p2
  obtain ⟨x5_1, x13_1, rfl, HA, HK1, HO_5, HB⟩ := hrel
  cases gk with
  | zero => exact absurd HA.out (by simp [impl_renamed_at_impl_turned_1.l0])
  | succ k1 =>
   have H := HA.out; clear HA
   simp only [impl_renamed_at_impl_turned_1.l0] at H
   by_cases c5 : x13_1 < (l0.length : Int)
   ·rw [if_pos c5] at H
    have c5b0 : decide (x13_1 < (l0.length : Int)) = true := decide_eq_true c5; clear c5
    by_cases c6 : 0 ≤ x13_1
    ·rw [if_pos c6] at H
     have c6b0 : decide (0 ≤ x13_1) = true := decide_eq_true c6; clear c6
     by_cases c7 : x13_1 < (l0.length : Int)
     ·rw [if_pos c7] at H
      have c7b0 : decide (x13_1 < (l0.length : Int)) = true := decide_eq_true c7; clear c7; replace H := Option.bind_eq_some_iff.mp H; obtain ⟨t501, A80, H⟩ := H; have A8 := Aside0.mk A80; clear A80; replace H := Option.bind_eq_some_iff.mp H; obtain ⟨t502, A90, H⟩ := H; have A9 := Aside0.mk A90; clear A90; obtain ⟨ji10, hji10⟩ : ∃ j_ : Int, (mn t501 t502) = j_ := ⟨_, rfl⟩; replace H : (if x5_1.length < 8796093022208 then (impl_renamed_at_impl_turned_1.l0 k_ n_ k1 (x5_1 ++ [(⟨ji10, mx t501 t502⟩ : S46)]) l0 (l0.length : Int) (wrap64 (x13_1 + 1))) else (none)) = some r := by first | (rw [hji10] at H; exact H) | (simp only [hji10] at H ⊢; exact H)
      (try rw [hji10] at A8)
      (try rw [hji10] at A9)
      have hji10_ : (if t502 < t501 then t502 else t501) = ji10 := hji10
      obtain ⟨ji11, hji11⟩ : ∃ j_ : Int, (mx t501 t502) = j_ := ⟨_, rfl⟩; replace H : (if x5_1.length < 8796093022208 then (impl_renamed_at_impl_turned_1.l0 k_ n_ k1 (x5_1 ++ [(⟨ji10, ji11⟩ : S46)]) l0 (l0.length : Int) (wrap64 (x13_1 + 1))) else (none)) = some r := by first | (rw [hji11] at H; exact H) | (simp only [hji11] at H ⊢; exact H)
      (try rw [hji11] at A8)
      (try rw [hji11] at A9)
      have hji11_ : (if t501 < t502 then t502 else t501) = ji11 := hji11
      by_cases c12 : x5_1.length < 8796093022208
      ·rw [if_pos c12] at H
       have LMc12 := Aside0.mk c12; clear c12; obtain ⟨y503, hy503⟩ : ∃ y_ : List (S46), y_ = (x5_1 ++ [(⟨ji10, ji11⟩ : S46)]) := ⟨_, rfl⟩; replace H : (impl_renamed_at_impl_turned_1.l0 k_ n_ k1 y503 l0 (l0.length : Int) (wrap64 (x13_1 + 1))) = some r := rh_ hy503 H; have Ny503 := Aside0.mk hy503; clear hy503; have H' := Aside0.mk H; clear H; have p499 : 0 ≤ (x13_1 : Int) := of_decide_eq_true as_; have q499 : x13_1 < (l0.length : Int) := of_decide_eq_true as_; obtain ⟨ad499, e499, hx499_0, hx499_1⟩ := at_T46 HR0.out x13_1 p499 q499
       cases e499
       replace hx499_0 := (HB.out.cell (World.block_lt_of_cell? w _ hx499_0)).trans hx499_0; replace hx499_1 := (HB.out.cell (World.block_lt_of_cell? w _ hx499_1)).trans hx499_1; replace p499 := eq_true p499; replace q499 := eq_true q499
       iterate 2 ((try go_wp2_with (first | ((with_reducible refine gate_dst (N := 7) rfl ?_); refine be_ #[.int .i64 0, .int .i64 0] 46 ?_; intro gb500 hg w13 hbox hb; replace HO_5 := Aside0.mk (Kd.R_below (Kd.R_elderB (kr_ HO_5.out) gb500 (Nat.le_of_eq hg.symm)) hb); have BK500 := Aside0.mk (hbox); have GW500 := Aside0.mk ((by rw [hg]; exact (below_size (bl_ HB.out)) : w.heap.size ≤ gb500)); have GE500 := Aside0.mk ((by rw [hg]; exact (below_size (bl_ HB.out)) : w.heap.size ≤ gb500)); replace HB := Aside0.mk (below_step (bl_ HB.out) hb); clear hb hbox hg; have hcz14_0 := cz_ BK500.out 0 (.int .i64 0); have hcz14_1 := cz_ BK500.out 1 (.int .i64 0); have hfz14_0 := blk_frozen BK500.out 0; have hfz14_1 := blk_frozen BK500.out 1) | (go_at_call 67; (with_reducible refine (impl_turned_1.calls ((rd_T46 l0 x13_1).f0) k_ n_ t501 g0_ g1_ _ A8.out (by first | exact blk_below HG0_.out HB.out | exact blk_below HG0_.out (bs_ HB.out GE500.out)) (by first | exact blk_below HG1_.out HB.out | exact blk_below HG1_.out (bs_ HB.out GE500.out))).mono ?_); rintro e w' ⟨rfl, ⟨nd, rfl⟩⟩; (try first | exact ⟨rfl, _, World.drewN_drewN _ _ _⟩ | exact ⟨rfl, _, Eq.trans (World.drewN_drewN _ _ _) (congrArg (World.drewN _) (Nat.add_assoc _ _ _))⟩)) | (go_at_call 67; (with_reducible refine (impl_turned_1.calls ((rd_T46 l0 x13_1).f1) k_ n_ t502 g0_ g1_ _ A9.out (by first | exact blk_below HG0_.out HB.out | exact blk_below HG0_.out (bs_ HB.out GE500.out)) (by first | exact blk_below HG1_.out HB.out | exact blk_below HG1_.out (bs_ HB.out GE500.out))).mono ?_); rintro e w' ⟨rfl, ⟨nd, rfl⟩⟩; (try first | exact ⟨rfl, _, World.drewN_drewN _ _ _⟩ | exact ⟨rfl, _, Eq.trans (World.drewN_drewN _ _ _) (congrArg (World.drewN _) (Nat.add_assoc _ _ _))⟩)) | ((with_reducible refine gate_builtin (b := .append) (xs := #[.tmp 25, .tmp 33]) rfl ?_); at_builtin; refine Kd.R_append k46 (w0 := w) w.heap.size rfl (.tmp 25) (.tmp 33) 24 46 (.agg #[(.int .i64 0), (.int .i64 0)]) 16 rfl Tryz.underlying24 info46 rfl (by decide) (by omega) u5 x5_1 (⟨ji10, ji11⟩ : S46) [.int .i64 ji10, .int .i64 ji11] (fun k_ => k_ ≠ gb500) (fun _ => False) rfl (by first | (go_simp; done) | (go_simp; rfl)) ?aP (fun _ hk => hk.elim) ?aF ?aO ?aB ?aS ?aL ?_; (case aP => exact k46_mkM _ _ _ (⟨ji10, ji11⟩ : S46)); (case aB => exact (bs_ HB.out GE500.out)); (case aF => exact (fun k_ hk => Kd.freshB (g := gb500) (o := .cells #[.int .i64 ((rd_T46 l0 x13_1).f0), .int .i64 ((rd_T46 l0 x13_1).f1)] 46 (0, 0)) (by (with_reducible repeat (first | refine blk_drewN ?_ _ | refine blk_drew ?_ | refine blk_alloc ?_ _)); refine blk_put (cs := #[.int .i64 ((rd_T46 l0 x13_1).f0), .int .i64 0]) ?_ 1 _ rfl; (with_reducible repeat (first | refine blk_drewN ?_ _ | refine blk_drew ?_ | refine blk_alloc ?_ _)); refine blk_put (cs := #[.int .i64 0, .int .i64 0]) ?_ 0 _ rfl; (with_reducible repeat (first | refine blk_drewN ?_ _ | refine blk_drew ?_ | refine blk_alloc ?_ _)); exact BK500.out) k_ hk)); (case aO => exact (by (with_reducible repeat (first | apply Kd.R_alloc | apply Kd.R_drewN | apply Kd.R_drew)); exact Kd.R_mono (Kd.R_far (p := ⟨gb500, 1, none⟩) (Kd.R_far (p := ⟨gb500, 0, none⟩) (Kd.R_mono HO_5.out (fun k_ hk => (⟨hk, hk.2⟩ : _ ∧ k_ ≠ gb500))) (fun _ hk => hk.2) (.int .i64 ((rd_T46 l0 x13_1).f0))) (fun _ hk => hk.2) (.int .i64 ((rd_T46 l0 x13_1).f1))) (fun _ hk => hk.1.2))); (case aS => exact (below_size (bs_ HB.out GE500.out))); (case aL => have := LMc12.out; omega); intro v504 w15 ho hb hg hat; rw [← Ny503.out] at ho; replace BK500 := Aside0.mk (blk_grown (g := gb500) (o := .cells #[.int .i64 ((rd_T46 l0 x13_1).f0), .int .i64 ((rd_T46 l0 x13_1).f1)] 46 (0, 0)) (by (with_reducible repeat (first | refine blk_drewN ?_ _ | refine blk_drew ?_ | refine blk_alloc ?_ _)); refine blk_put (cs := #[.int .i64 ((rd_T46 l0 x13_1).f0), .int .i64 0]) ?_ 1 _ rfl; (with_reducible repeat (first | refine blk_drewN ?_ _ | refine blk_drew ?_ | refine blk_alloc ?_ _)); refine blk_put (cs := #[.int .i64 0, .int .i64 0]) ?_ 0 _ rfl; (with_reducible repeat (first | refine blk_drewN ?_ _ | refine blk_drew ?_ | refine blk_alloc ?_ _)); exact BK500.out) hg (Kd.R_away HO_5.out (fun _ hk => hk.2))); replace HB := Aside0.mk (hb); have HO505 := Aside0.mk (ho); clear HO_5 ho hb hg hat))); try go_quiet (first | (go_at_call 67; (with_reducible refine (impl_turned_1.calls ((rd_T46 l0 x13_1).f0) k_ n_ t501 g0_ g1_ _ A8.out (by first | exact blk_below HG0_.out HB.out | exact blk_below HG0_.out (bs_ HB.out GE500.out)) (by first | exact blk_below HG1_.out HB.out | exact blk_below HG1_.out (bs_ HB.out GE500.out))).mono ?_); rintro e w' ⟨rfl, ⟨nd, rfl⟩⟩; (try first | exact ⟨rfl, _, World.drewN_drewN _ _ _⟩ | exact ⟨rfl, _, Eq.trans (World.drewN_drewN _ _ _) (congrArg (World.drewN _) (Nat.add_assoc _ _ _))⟩)) | (go_at_call 67; (with_reducible refine (impl_turned_1.calls ((rd_T46 l0 x13_1).f1) k_ n_ t502 g0_ g1_ _ A9.out (by first | exact blk_below HG0_.out HB.out | exact blk_below HG0_.out (bs_ HB.out GE500.out)) (by first | exact blk_below HG1_.out HB.out | exact blk_below HG1_.out (bs_ HB.out GE500.out))).mono ?_); rintro e w' ⟨rfl, ⟨nd, rfl⟩⟩; (try first | exact ⟨rfl, _, World.drewN_drewN _ _ _⟩ | exact ⟨rfl, _, Eq.trans (World.drewN_drewN _ _ _) (congrArg (World.drewN _) (Nat.add_assoc _ _ _))⟩))))
       go_roundg k1
       case measure => have := HK1.out; omega
       case rel => exact ⟨(y503), (wrap64 (x13_1 + 1)), (fs_), H', ⟨by have := HK1.out; omega⟩, ⟨by (with_reducible repeat (first | apply Kd.R_alloc | apply Kd.R_drewN | apply Kd.R_drew)); exact Kd.R_mono HO505.out (fun _ hk => trivial)⟩, ⟨bs_ HB.out GE500.out⟩⟩
      ·rw [if_neg c12] at H
       exact absurd H (by simp)
     ·rw [if_neg c7] at H
      exact absurd H (by simp)
    ·rw [if_neg c6] at H
     exact absurd H (by simp)
   ·rw [if_neg c5] at H
    have c5b0 : decide (x13_1 < (l0.length : Int)) = false := decide_eq_false c5; clear c5; replace H := Option.bind_eq_some_iff.mp H; obtain ⟨t506, A160, H⟩ := H; have A16 := Aside0.mk A160; clear A160; obtain rfl := Option.some.inj H; obtain ⟨Ao17, co17, eo17⟩ := Kd.R_slice HO_5.out; subst eo17
    iterate 2 ((try go_wp2_with (first | (go_at_call 75; (with_reducible refine (impl_Diagonal__at_impl_compareDiagonals_75.calls k1 (fun k_ => some k_ = (.slice Ao17 x5_1.length co17 : Value).ownBlock) (.slice Ao17 x5_1.length co17) x5_1  t506 w _ ?side1 ?side2 A16.out).mono ?_); (case side1 => exact bl_ HB.out); (case side2 => exact Kd.R_tight rfl HO_5.out); rintro e w18 ⟨rfl, hy0, hb, hkp⟩; replace HO_5 := Aside0.mk (Kd.R_reok rfl hy0 (fun k_ e_ => HO_5.out.1 k_ e_)); replace HB := Aside0.mk (hb); (try clear hb); (try clear hkp); (try clear hy0)))); try go_quiet (first | (go_at_call 75; (with_reducible refine (impl_Diagonal__at_impl_compareDiagonals_75.calls k1 (fun k_ => some k_ = (.slice Ao17 x5_1.length co17 : Value).ownBlock) (.slice Ao17 x5_1.length co17) x5_1  t506 w _ ?side1 ?side2 A16.out).mono ?_); (case side1 => exact bl_ HB.out); (case side2 => exact Kd.R_tight rfl HO_5.out); rintro e w18 ⟨rfl, hy0, hb, hkp⟩; replace HO_5 := Aside0.mk (Kd.R_reok rfl hy0 (fun k_ e_ => HO_5.out.1 k_ e_)); replace HB := Aside0.mk (hb); (try clear hb); (try clear hkp); (try clear hy0))))
    go_ret
    exact ⟨_, by first | rfl | (simp [errW_none, errW_some] <;> rfl) | (simp [*, errW_none, errW_some] <;> rfl), by (with_reducible repeat (first | apply Kd.R_alloc | apply Kd.R_drewN | apply Kd.R_drew)); exact HO_5.out, bl_ HB.out⟩
def impl_turned.f (k : Nat) (a0 : Int) (l1 : List (S46)) (a2 : Int) : Option (List (S46)) := impl_renamed_at_impl_turned_1.f a2 a0 k l1
set_option maxHeartbeats 4000000 in
set_option maxRecDepth 100000 in
theorem impl_turned.calls (k : Nat) (a0 : Int) (A1 : Option Addr) (c1 : Nat) (l1 : List (S46)) (a2 : Int) (r : List (S46)) (w : World) (hr1 : Kd.C k46 w A1 l1.length l1) (hc1 : l1.length ≤ c1) (h : impl_turned.f k a0 l1 a2 = some r) :
  Calls Tryz.prog 41 #[.int .i64 a0, .slice A1 l1.length c1, .int .i64 a2] w fun e w' => ∃ v0_ : Value, e = .returned (v0_) ∧ Kd.R k46 46 w' w.heap.size (fun _ => True) v0_ r ∧ Below w.heap.size w w' := by
 have HR1 := Aside0.mk hr1; have HC1 := Aside0.mk hc1; have H := Aside0.mk (show impl_renamed_at_impl_turned_1.f a2 a0 k l1 = some r from h)
 clear hr1 hc1 h
 go_enter Tryz.func41, Tryz.ntmps41
 go_wp2_with (first | ((with_reducible refine gate_dst (N := 3) rfl ?_); refine be_ #[.int .i64 a0] 3 ?_; intro gb1 hgb w9 hbox hb; have HX1 := Aside0.mk hbox; have HB1 := Aside0.mk hb; clear hgb hbox hb) | ((with_reducible refine gate_dst (N := 5) rfl ?_); refine be_ #[.int .i64 a2] 3 ?_; intro gb2 hgb w10 hbox hb; have HX2 := Aside0.mk hbox; have HB2 := Aside0.mk hb; clear hgb hbox hb) | (go_at_call 66; refine (impl_renamed_at_impl_turned_1.calls a2 a0 gb2 gb1 k A1 c1 l1 r w10 (Kd.C_below HR1.out (below_step HB1.out HB2.out)) HC1.out H.out HX2.out (blk_below HX1.out HB2.out)).mono ?_; rintro e w11 ⟨v0, rfl, ho, hb⟩; have HO := Aside0.mk ho; have HB3 := Aside0.mk hb; clear ho hb))
 go_ret
 exact ⟨_, rfl, Kd.R_lower HO.out (below_size (below_step HB1.out HB2.out)), below_step (below_step HB1.out HB2.out) HB3.out⟩
def impl_PeriodOfPolygon.l0 : Nat → Int → List (S46) → Int → Option (Int × Bool)
 | 0, _, _, _ => none
 | k + 1, x0, x1, x6 => if x6 < x0 then ((impl_turned.f k x0 x1 x6).bind fun t508 => ((impl_Diagonal_40.f k t508 x1).bind fun t511 => (if t511 = true then (some (x6, true)) else (impl_PeriodOfPolygon.l0 k x0 x1 (wrap64 (x6 + 1)))))) else (some (x6, true))
def impl_PeriodOfPolygon.f (k : Nat) (a0 : Int) (l1 : List (S46)) : Option (Int × Bool) := (impl_IsTriangulation.f k a0 l1).bind fun t507 => (if t507 = true then (impl_PeriodOfPolygon.l0 k a0 l1 1) else (some (0, false)))
set_option maxHeartbeats 8000000 in
set_option maxRecDepth 100000 in
theorem impl_PeriodOfPolygon.calls (k : Nat) (a0 : Int) (A1 : Option Addr) (c1 : Nat) (l1 : List (S46)) (r1 : Int) (r2 : Bool) (w : World) (hr1 : Kd.C k46 w A1 l1.length l1) (hc1 : l1.length ≤ c1) (h : impl_PeriodOfPolygon.f k a0 l1 = some (r1, r2)) :
  Calls Tryz.prog 14 #[.int .i64 a0, .slice A1 l1.length c1] w fun e w' => e = .returned (.tuple #[.int .i64 r1, .bool r2]) ∧ Below w.heap.size w w' := by
 have HR1 := Aside0.mk hr1; have HC1 := Aside0.mk hc1; clear hr1 hc1; have HB := Aside0.mk (Below.refl w.heap.size w); have H : ((impl_IsTriangulation.f k a0 l1).bind fun t507 => (if t507 = true then (impl_PeriodOfPolygon.l0 k a0 l1 1) else (some (0, false)))) = some (r1, r2) := h
 clear h; replace H := Option.bind_eq_some_iff.mp H; obtain ⟨t507, A30, H⟩ := H; have A3 := Aside0.mk A30; clear A30
 by_cases c4 : t507 = true
 ·subst c4
  rw [if_pos rfl] at H
  have H' := Aside0.mk H; clear H
  go_enter Tryz.func14, Tryz.ntmps14
  go_wp2_with (first | ((with_reducible refine gate_callee (f := 21) rfl ?_); refine gl_ (some 9) Tryz.func21 #[.int .i64 a0, .slice A1 l1.length c1] rfl ?_; (with_reducible refine (impl_IsTriangulation.calls k a0 _ _ l1 true _ ?side1 ?side2 A3.out).mono ?_); (case side1 => exact cc_ HR1.out); (case side2 => exact HC1.out); rintro e w5 ⟨rfl, hb⟩; refine ⟨_, rfl, ?_⟩; replace HB := Aside0.mk (below_step (bl_ HB.out) hb); (try clear hb); (try clear hb2); (try clear hk); (try clear hi)))
  go_loopg [6] k (fun kq v6 w' => ∃ (x6_1 : Int), v6 = .int .i64 x6_1 ∧ Aside0 (impl_PeriodOfPolygon.l0 kq a0 l1 x6_1 = some (r1, r2)) ∧ Aside0 (kq ≤ k) ∧ Aside0 (Below w.heap.size w w'))
  case atStart => exact ⟨(1), (fs_), H', ⟨Nat.le_refl _⟩, ⟨bl_ HB.out⟩⟩
  case round =>
   clear H'
   try clear c1
   try clear c2
   try clear p2
   try clear c4
   obtain ⟨x6_1, rfl, HA, HK1, HB⟩ := hrel
   cases gk with
   | zero => exact absurd HA.out (by simp [impl_PeriodOfPolygon.l0])
   | succ k1 =>
    have H := HA.out; clear HA
    simp only [impl_PeriodOfPolygon.l0] at H
    by_cases c6 : x6_1 < a0
    ·rw [if_pos c6] at H
     have c6b0 : decide (x6_1 < a0) = true := decide_eq_true c6; clear c6; replace H := Option.bind_eq_some_iff.mp H; obtain ⟨t508, A70, H⟩ := H; have A7 := Aside0.mk A70; clear A70; replace H := Option.bind_eq_some_iff.mp H; obtain ⟨t511, A80, H⟩ := H; have A8 := Aside0.mk A80; clear A80
     by_cases c9 : t511 = true
     ·subst c9
      rw [if_pos rfl] at H
      simp only [Option.some.injEq, Prod.mk.injEq] at H
      obtain ⟨rfl, rfl⟩ := H
      go_wp2_with (first | (go_at_call 41; (with_reducible refine (impl_turned.calls k1 a0 _ _ l1 x6_1 t508 _ ?side1 ?side2 A7.out).mono ?_); (case side1 => exact cc_ (Kd.C_below HR1.out HB.out)); (case side2 => exact HC1.out); rintro e w10 ⟨v509, rfl, ho0, hb⟩; have HO510 := Aside0.mk (Kd.R_lower ho0 (below_size (bl_ HB.out))); replace HB := Aside0.mk (below_step (bl_ HB.out) hb); (try clear hb); (try clear hb2); (try clear hk); (try clear hi); (try clear ho0); obtain ⟨Ao11, co11, eo11⟩ := Kd.R_slice HO510.out; subst eo11) | (go_at_call 40; (with_reducible refine (impl_Diagonal_40.calls k1 _ _ t508 _ _ l1 true _ ?side1 ?side2 ?side3 ?side4 A8.out).mono ?_); (case side1 => exact cc_ (Kd.R_reads' HO510.out).2.2); (case side2 => exact (Kd.R_reads' HO510.out).2.1); (case side3 => exact cc_ (Kd.C_below HR1.out HB.out)); (case side4 => exact HC1.out); rintro e w' ⟨rfl, ⟨nd, rfl⟩⟩))
      go_ret2
      exact ⟨by first | rfl | (simp [errW_none, errW_some] <;> rfl) | (simp [*, errW_none, errW_some] <;> rfl), bl_ HB.out⟩
     ·replace c9 := Bool.eq_false_iff.mpr c9
      subst c9; rw [if_neg (show ¬ (false = true) by decide)] at H
      have H' := Aside0.mk H; clear H
      go_wp2_with (first | (go_at_call 41; (with_reducible refine (impl_turned.calls k1 a0 _ _ l1 x6_1 t508 _ ?side1 ?side2 A7.out).mono ?_); (case side1 => exact cc_ (Kd.C_below HR1.out HB.out)); (case side2 => exact HC1.out); rintro e w12 ⟨v509, rfl, ho0, hb⟩; have HO510 := Aside0.mk (Kd.R_lower ho0 (below_size (bl_ HB.out))); replace HB := Aside0.mk (below_step (bl_ HB.out) hb); (try clear hb); (try clear hb2); (try clear hk); (try clear hi); (try clear ho0); obtain ⟨Ao13, co13, eo13⟩ := Kd.R_slice HO510.out; subst eo13) | (go_at_call 40; (with_reducible refine (impl_Diagonal_40.calls k1 _ _ t508 _ _ l1 false _ ?side1 ?side2 ?side3 ?side4 A8.out).mono ?_); (case side1 => exact cc_ (Kd.R_reads' HO510.out).2.2); (case side2 => exact (Kd.R_reads' HO510.out).2.1); (case side3 => exact cc_ (Kd.C_below HR1.out HB.out)); (case side4 => exact HC1.out); rintro e w' ⟨rfl, ⟨nd, rfl⟩⟩))
      go_roundg k1
      case measure => have := HK1.out; omega
      case rel => exact ⟨(wrap64 (x6_1 + 1)), (fs_), H', ⟨by have := HK1.out; omega⟩, ⟨bl_ HB.out⟩⟩
    ·rw [if_neg c6] at H
     have c6b0 : decide (x6_1 < a0) = false := decide_eq_false c6; clear c6
     simp only [Option.some.injEq, Prod.mk.injEq] at H
     obtain ⟨rfl, rfl⟩ := H
     go_wp2
     go_ret2
     exact ⟨by first | rfl | (simp [errW_none, errW_some] <;> rfl) | (simp [*, errW_none, errW_some] <;> rfl), bl_ HB.out⟩
 ·replace c4 := Bool.eq_false_iff.mpr c4
  subst c4; rw [if_neg (show ¬ (false = true) by decide)] at H
  simp only [Option.some.injEq, Prod.mk.injEq] at H
  obtain ⟨rfl, rfl⟩ := H
  go_enter Tryz.func14, Tryz.ntmps14
  go_wp2_with (first | ((with_reducible refine gate_callee (f := 21) rfl ?_); refine gl_ (some 9) Tryz.func21 #[.int .i64 a0, .slice A1 l1.length c1] rfl ?_; (with_reducible refine (impl_IsTriangulation.calls k a0 _ _ l1 false _ ?side1 ?side2 A3.out).mono ?_); (case side1 => exact cc_ HR1.out); (case side2 => exact HC1.out); rintro e w14 ⟨rfl, hb⟩; refine ⟨_, rfl, ?_⟩; replace HB := Aside0.mk (below_step (bl_ HB.out) hb); (try clear hb); (try clear hb2); (try clear hk); (try clear hi)))
  go_ret2
  exact ⟨by first | rfl | (simp [errW_none, errW_some] <;> rfl) | (simp [*, errW_none, errW_some] <;> rfl), bl_ HB.out⟩
def impl_mirrored_1.f (a0 : Int) (n_ : Int) : Option Int := some (wrap64 (wrap64 (n_ - 1) - a0))
set_option maxHeartbeats 4000000 in
set_option maxRecDepth 100000 in
theorem impl_mirrored_1.calls (a0 n_ : Int) (r : Int) (g1 : Nat) (w : World) (h : impl_mirrored_1.f a0 n_ = some r) (h1 : w.heap[g1]? = some (.cells #[.int .i64 n_] 3 (0, 0))) :
  Calls Tryz.prog 69 #[.int .i64 a0, .pointer (some ⟨g1, 0, none⟩)] w fun e w' => e = .returned (.int .i64 r) ∧ Drawn0 w w' := by
 unfold impl_mirrored_1.f at h
 obtain rfl := Option.some.inj h; clear h; have hc1 : w.cell? ⟨g1, 0, none⟩ = some (.int .i64 n_) := (blk_cell h1 0).trans rfl; clear h1
 go_enter Tryz.func69, Tryz.ntmps69
 go_wp2
 go_ret
 exact ⟨rfl, Drawn0.refl _⟩
def impl_renamed_at_impl_mirrored_1.l0 (n_ : Int) : Nat → List (S46) → List (S46) → Int → Int → Option ((List (S46)))
 | 0, _, _, _, _ => none
 | k + 1, x5, x11, x12, x13 => if x13 < x12 then (if 0 ≤ x13 then (if x13 < (x11.length : Int) then ((impl_mirrored_1.f ((rd_T46 x11 x13).f0) n_).bind fun t542 => ((impl_mirrored_1.f ((rd_T46 x11 x13).f1) n_).bind fun t543 => (if x5.length < 8796093022208 then (impl_renamed_at_impl_mirrored_1.l0 n_ k (x5 ++ [(⟨mn t542 t543, mx t542 t543⟩ : S46)]) x11 x12 (wrap64 (x13 + 1))) else (none)))) else (none)) else (none)) else ((impl_Diagonal__at_impl_compareDiagonals_75.f k x5).bind fun t547 => (some t547))
def impl_renamed_at_impl_mirrored_1.f (n_ : Int) (k : Nat) (l0 : List (S46))  : Option ((List (S46))) := impl_renamed_at_impl_mirrored_1.l0 n_ k (([] : List (S46))) l0 (l0.length : Int) 0
set_option maxHeartbeats 8000000 in
set_option maxRecDepth 100000 in
theorem impl_renamed_at_impl_mirrored_1.calls (n_ : Int) (g0_ : Nat) (k : Nat) (A0 : Option Addr) (c0 : Nat) (l0 : List (S46))  (r : List (S46)) (w : World) (hr0 : Kd.C k46 w A0 l0.length l0) (hc0 : l0.length ≤ c0) (h : impl_renamed_at_impl_mirrored_1.f n_ k l0 = some r) (hg0 : w.heap[g0_]? = some (.cells #[.int .i64 n_] 3 (0, 0))) :
  Calls Tryz.prog 66 #[.slice A0 l0.length c0, .func (.func 69) #[] #[.pointer (some ⟨g0_, 0, none⟩)]] w fun e w' => ∃ v0_ : Value, e = .returned (v0_) ∧ Kd.R k46 46 w' w.heap.size (fun _ => True) v0_ r ∧ Below w.heap.size w w' := by
 have HG0_ := Aside0.mk hg0; clear hg0; have hu46 := Tryz.underlying46; have HR0 := Aside0.mk hr0; have HC0 := Aside0.mk hc0; clear hr0 hc0; have HB := Aside0.mk (Below.refl w.heap.size w); have H : (impl_renamed_at_impl_mirrored_1.l0 n_ k (([] : List (S46))) l0 (l0.length : Int) 0) = some r := h; clear h; obtain ⟨y537, hy537⟩ : ∃ y_ : List (S46), y_ = (([] : List (S46))) := ⟨_, rfl⟩; replace H : (impl_renamed_at_impl_mirrored_1.l0 n_ k y537 l0 (l0.length : Int) 0) = some r := rh_ hy537 H; have Ny537 := Aside0.mk hy537; clear hy537; have H' := Aside0.mk H; clear H
 go_enter Tryz.func66, Tryz.ntmps66
 iterate 2 ((try go_wp2_with (first | ((with_reducible refine gate_dst (N := 10) rfl ?_); refine Kd.R_lit k46 _ 46 ?hg (N := 10) ?hd (xs := ([] : List (S46))) (inner := []) (ok := fun _ => True) (okp := fun _ => True) ?hr ?hp (fun _ hk => hk) trivial (Below.refl _ _) (Nat.le_refl _) (by simp) ?_; (case hd => rfl); (case hg => rfl); (case hr => first | (go_simp; done) | (go_simp; rfl)); (case hp => exact (Reps.none _ _)); intro v538 w3 ho4 hb hg_ hnew_; clear hg_ hnew_; (first | rw [← Ny537.out] at ho4 | (simp only [Int.reduceToNat] at ho4; rw [← Ny537.out] at ho4)); have HO539 := Aside0.mk (Kd.R_lower ho4 (below_size (bl_ HB.out))); replace HB := Aside0.mk (below_step (bl_ HB.out) hb); clear hb ho4))); try go_quiet (fail))
 go_loopg [5, 13] k (fun kq v5 v13 w' => ∃ (x5_1 : List (S46)) (x13_1 : Int), v13 = .int .i64 x13_1 ∧ Aside0 (impl_renamed_at_impl_mirrored_1.l0 n_ kq x5_1 l0 (l0.length : Int) x13_1 = some r) ∧ Aside0 (kq ≤ k) ∧ Aside0 (Kd.R k46 46 w' w.heap.size (fun _ => True) v5 x5_1) ∧ Aside0 (Below w.heap.size w w'))
 case atStart => exact ⟨(y537), (0), (fs_), H', ⟨Nat.le_refl _⟩, ⟨kr_ HO539.out⟩, ⟨bl_ HB.out⟩⟩
 case round =>
  clear H'
  try clear p2
  obtain ⟨x5_1, x13_1, rfl, HA, HK1, HO_5, HB⟩ := hrel
  cases gk with
  | zero => exact absurd HA.out (by simp [impl_renamed_at_impl_mirrored_1.l0])
  | succ k1 =>
   have H := HA.out; clear HA
   simp only [impl_renamed_at_impl_mirrored_1.l0] at H
   by_cases c5 : x13_1 < (l0.length : Int)
   ·rw [if_pos c5] at H
    have c5b0 : decide (x13_1 < (l0.length : Int)) = true := decide_eq_true c5; clear c5
    by_cases c6 : 0 ≤ x13_1
    ·rw [if_pos c6] at H
     have c6b0 : decide (0 ≤ x13_1) = true := decide_eq_true c6; clear c6
     by_cases c7 : x13_1 < (l0.length : Int)
     ·rw [if_pos c7] at H
      have c7b0 : decide (x13_1 < (l0.length : Int)) = true := decide_eq_true c7; clear c7; replace H := Option.bind_eq_some_iff.mp H; obtain ⟨t542, A80, H⟩ := H; have A8 := Aside0.mk A80; clear A80; replace H := Option.bind_eq_some_iff.mp H; obtain ⟨t543, A90, H⟩ := H; have A9 := Aside0.mk A90; clear A90; obtain ⟨ji10, hji10⟩ : ∃ j_ : Int, (mn t542 t543) = j_ := ⟨_, rfl⟩; replace H : (if x5_1.length < 8796093022208 then (impl_renamed_at_impl_mirrored_1.l0 n_ k1 (x5_1 ++ [(⟨ji10, mx t542 t543⟩ : S46)]) l0 (l0.length : Int) (wrap64 (x13_1 + 1))) else (none)) = some r := by first | (rw [hji10] at H; exact H) | (simp only [hji10] at H ⊢; exact H)
      (try rw [hji10] at A8)
      (try rw [hji10] at A9)
      have hji10_ : (if t543 < t542 then t543 else t542) = ji10 := hji10
      obtain ⟨ji11, hji11⟩ : ∃ j_ : Int, (mx t542 t543) = j_ := ⟨_, rfl⟩; replace H : (if x5_1.length < 8796093022208 then (impl_renamed_at_impl_mirrored_1.l0 n_ k1 (x5_1 ++ [(⟨ji10, ji11⟩ : S46)]) l0 (l0.length : Int) (wrap64 (x13_1 + 1))) else (none)) = some r := by first | (rw [hji11] at H; exact H) | (simp only [hji11] at H ⊢; exact H)
      (try rw [hji11] at A8)
      (try rw [hji11] at A9)
      have hji11_ : (if t542 < t543 then t543 else t542) = ji11 := hji11
      by_cases c12 : x5_1.length < 8796093022208
      ·rw [if_pos c12] at H
       have LMc12 := Aside0.mk c12; clear c12; obtain ⟨y544, hy544⟩ : ∃ y_ : List (S46), y_ = (x5_1 ++ [(⟨ji10, ji11⟩ : S46)]) := ⟨_, rfl⟩; replace H : (impl_renamed_at_impl_mirrored_1.l0 n_ k1 y544 l0 (l0.length : Int) (wrap64 (x13_1 + 1))) = some r := rh_ hy544 H; have Ny544 := Aside0.mk hy544; clear hy544; have H' := Aside0.mk H; clear H; have p540 : 0 ≤ (x13_1 : Int) := of_decide_eq_true as_; have q540 : x13_1 < (l0.length : Int) := of_decide_eq_true as_; obtain ⟨ad540, e540, hx540_0, hx540_1⟩ := at_T46 HR0.out x13_1 p540 q540
       cases e540
       replace hx540_0 := (HB.out.cell (World.block_lt_of_cell? w _ hx540_0)).trans hx540_0; replace hx540_1 := (HB.out.cell (World.block_lt_of_cell? w _ hx540_1)).trans hx540_1; replace p540 := eq_true p540; replace q540 := eq_true q540
       iterate 2 ((try go_wp2_with (first | ((with_reducible refine gate_dst (N := 7) rfl ?_); refine be_ #[.int .i64 0, .int .i64 0] 46 ?_; intro gb541 hg w13 hbox hb; replace HO_5 := Aside0.mk (Kd.R_below (Kd.R_elderB (kr_ HO_5.out) gb541 (Nat.le_of_eq hg.symm)) hb); have BK541 := Aside0.mk (hbox); have GW541 := Aside0.mk ((by rw [hg]; exact (below_size (bl_ HB.out)) : w.heap.size ≤ gb541)); have GE541 := Aside0.mk ((by rw [hg]; exact (below_size (bl_ HB.out)) : w.heap.size ≤ gb541)); replace HB := Aside0.mk (below_step (bl_ HB.out) hb); clear hb hbox hg; have hcz14_0 := cz_ BK541.out 0 (.int .i64 0); have hcz14_1 := cz_ BK541.out 1 (.int .i64 0); have hfz14_0 := blk_frozen BK541.out 0; have hfz14_1 := blk_frozen BK541.out 1) | (go_at_call 69; (with_reducible refine (impl_mirrored_1.calls ((rd_T46 l0 x13_1).f0) n_ t542 g0_ _ A8.out (by first | exact blk_below HG0_.out HB.out | exact blk_below HG0_.out (bs_ HB.out GE541.out))).mono ?_); rintro e w' ⟨rfl, ⟨nd, rfl⟩⟩; (try first | exact ⟨rfl, _, World.drewN_drewN _ _ _⟩ | exact ⟨rfl, _, Eq.trans (World.drewN_drewN _ _ _) (congrArg (World.drewN _) (Nat.add_assoc _ _ _))⟩)) | (go_at_call 69; (with_reducible refine (impl_mirrored_1.calls ((rd_T46 l0 x13_1).f1) n_ t543 g0_ _ A9.out (by first | exact blk_below HG0_.out HB.out | exact blk_below HG0_.out (bs_ HB.out GE541.out))).mono ?_); rintro e w' ⟨rfl, ⟨nd, rfl⟩⟩; (try first | exact ⟨rfl, _, World.drewN_drewN _ _ _⟩ | exact ⟨rfl, _, Eq.trans (World.drewN_drewN _ _ _) (congrArg (World.drewN _) (Nat.add_assoc _ _ _))⟩)) | ((with_reducible refine gate_builtin (b := .append) (xs := #[.tmp 25, .tmp 33]) rfl ?_); at_builtin; refine Kd.R_append k46 (w0 := w) w.heap.size rfl (.tmp 25) (.tmp 33) 24 46 (.agg #[(.int .i64 0), (.int .i64 0)]) 16 rfl Tryz.underlying24 info46 rfl (by decide) (by omega) u5 x5_1 (⟨ji10, ji11⟩ : S46) [.int .i64 ji10, .int .i64 ji11] (fun k_ => k_ ≠ gb541) (fun _ => False) rfl (by first | (go_simp; done) | (go_simp; rfl)) ?aP (fun _ hk => hk.elim) ?aF ?aO ?aB ?aS ?aL ?_; (case aP => exact k46_mkM _ _ _ (⟨ji10, ji11⟩ : S46)); (case aB => exact (bs_ HB.out GE541.out)); (case aF => exact (fun k_ hk => Kd.freshB (g := gb541) (o := .cells #[.int .i64 ((rd_T46 l0 x13_1).f0), .int .i64 ((rd_T46 l0 x13_1).f1)] 46 (0, 0)) (by (with_reducible repeat (first | refine blk_drewN ?_ _ | refine blk_drew ?_ | refine blk_alloc ?_ _)); refine blk_put (cs := #[.int .i64 ((rd_T46 l0 x13_1).f0), .int .i64 0]) ?_ 1 _ rfl; (with_reducible repeat (first | refine blk_drewN ?_ _ | refine blk_drew ?_ | refine blk_alloc ?_ _)); refine blk_put (cs := #[.int .i64 0, .int .i64 0]) ?_ 0 _ rfl; (with_reducible repeat (first | refine blk_drewN ?_ _ | refine blk_drew ?_ | refine blk_alloc ?_ _)); exact BK541.out) k_ hk)); (case aO => exact (by (with_reducible repeat (first | apply Kd.R_alloc | apply Kd.R_drewN | apply Kd.R_drew)); exact Kd.R_mono (Kd.R_far (p := ⟨gb541, 1, none⟩) (Kd.R_far (p := ⟨gb541, 0, none⟩) (Kd.R_mono HO_5.out (fun k_ hk => (⟨hk, hk.2⟩ : _ ∧ k_ ≠ gb541))) (fun _ hk => hk.2) (.int .i64 ((rd_T46 l0 x13_1).f0))) (fun _ hk => hk.2) (.int .i64 ((rd_T46 l0 x13_1).f1))) (fun _ hk => hk.1.2))); (case aS => exact (below_size (bs_ HB.out GE541.out))); (case aL => have := LMc12.out; omega); intro v545 w15 ho hb hg hat; rw [← Ny544.out] at ho; replace BK541 := Aside0.mk (blk_grown (g := gb541) (o := .cells #[.int .i64 ((rd_T46 l0 x13_1).f0), .int .i64 ((rd_T46 l0 x13_1).f1)] 46 (0, 0)) (by (with_reducible repeat (first | refine blk_drewN ?_ _ | refine blk_drew ?_ | refine blk_alloc ?_ _)); refine blk_put (cs := #[.int .i64 ((rd_T46 l0 x13_1).f0), .int .i64 0]) ?_ 1 _ rfl; (with_reducible repeat (first | refine blk_drewN ?_ _ | refine blk_drew ?_ | refine blk_alloc ?_ _)); refine blk_put (cs := #[.int .i64 0, .int .i64 0]) ?_ 0 _ rfl; (with_reducible repeat (first | refine blk_drewN ?_ _ | refine blk_drew ?_ | refine blk_alloc ?_ _)); exact BK541.out) hg (Kd.R_away HO_5.out (fun _ hk => hk.2))); replace HB := Aside0.mk (hb); have HO546 := Aside0.mk (ho); clear HO_5 ho hb hg hat))); try go_quiet (first | (go_at_call 69; (with_reducible refine (impl_mirrored_1.calls ((rd_T46 l0 x13_1).f0) n_ t542 g0_ _ A8.out (by first | exact blk_below HG0_.out HB.out | exact blk_below HG0_.out (bs_ HB.out GE541.out))).mono ?_); rintro e w' ⟨rfl, ⟨nd, rfl⟩⟩; (try first | exact ⟨rfl, _, World.drewN_drewN _ _ _⟩ | exact ⟨rfl, _, Eq.trans (World.drewN_drewN _ _ _) (congrArg (World.drewN _) (Nat.add_assoc _ _ _))⟩)) | (go_at_call 69; (with_reducible refine (impl_mirrored_1.calls ((rd_T46 l0 x13_1).f1) n_ t543 g0_ _ A9.out (by first | exact blk_below HG0_.out HB.out | exact blk_below HG0_.out (bs_ HB.out GE541.out))).mono ?_); rintro e w' ⟨rfl, ⟨nd, rfl⟩⟩; (try first | exact ⟨rfl, _, World.drewN_drewN _ _ _⟩ | exact ⟨rfl, _, Eq.trans (World.drewN_drewN _ _ _) (congrArg (World.drewN _) (Nat.add_assoc _ _ _))⟩))))
       go_roundg k1
       case measure => have := HK1.out; omega
       case rel => exact ⟨(y544), (wrap64 (x13_1 + 1)), (fs_), H', ⟨by have := HK1.out; omega⟩, ⟨by (with_reducible repeat (first | apply Kd.R_alloc | apply Kd.R_drewN | apply Kd.R_drew)); exact Kd.R_mono HO546.out (fun _ hk => trivial)⟩, ⟨bs_ HB.out GE541.out⟩⟩
      ·rw [if_neg c12] at H
       exact absurd H (by simp)
     ·rw [if_neg c7] at H
      exact absurd H (by simp)
    ·rw [if_neg c6] at H
     exact absurd H (by simp)
   ·rw [if_neg c5] at H
    have c5b0 : decide (x13_1 < (l0.length : Int)) = false := decide_eq_false c5; clear c5; replace H := Option.bind_eq_some_iff.mp H; obtain ⟨t547, A160, H⟩ := H; have A16 := Aside0.mk A160; clear A160; obtain rfl := Option.some.inj H; obtain ⟨Ao17, co17, eo17⟩ := Kd.R_slice HO_5.out; subst eo17
    iterate 2 ((try go_wp2_with (first | (go_at_call 75; (with_reducible refine (impl_Diagonal__at_impl_compareDiagonals_75.calls k1 (fun k_ => some k_ = (.slice Ao17 x5_1.length co17 : Value).ownBlock) (.slice Ao17 x5_1.length co17) x5_1  t547 w _ ?side1 ?side2 A16.out).mono ?_); (case side1 => exact bl_ HB.out); (case side2 => exact Kd.R_tight rfl HO_5.out); rintro e w18 ⟨rfl, hy0, hb, hkp⟩; replace HO_5 := Aside0.mk (Kd.R_reok rfl hy0 (fun k_ e_ => HO_5.out.1 k_ e_)); replace HB := Aside0.mk (hb); (try clear hb); (try clear hkp); (try clear hy0)))); try go_quiet (first | (go_at_call 75; (with_reducible refine (impl_Diagonal__at_impl_compareDiagonals_75.calls k1 (fun k_ => some k_ = (.slice Ao17 x5_1.length co17 : Value).ownBlock) (.slice Ao17 x5_1.length co17) x5_1  t547 w _ ?side1 ?side2 A16.out).mono ?_); (case side1 => exact bl_ HB.out); (case side2 => exact Kd.R_tight rfl HO_5.out); rintro e w18 ⟨rfl, hy0, hb, hkp⟩; replace HO_5 := Aside0.mk (Kd.R_reok rfl hy0 (fun k_ e_ => HO_5.out.1 k_ e_)); replace HB := Aside0.mk (hb); (try clear hb); (try clear hkp); (try clear hy0))))
    go_ret
    exact ⟨_, by first | rfl | (simp [errW_none, errW_some] <;> rfl) | (simp [*, errW_none, errW_some] <;> rfl), by (with_reducible repeat (first | apply Kd.R_alloc | apply Kd.R_drewN | apply Kd.R_drew)); exact HO_5.out, bl_ HB.out⟩
def impl_mirrored.f (k : Nat) (a0 : Int) (l1 : List (S46)) : Option (List (S46)) := impl_renamed_at_impl_mirrored_1.f a0 k l1
set_option maxHeartbeats 4000000 in
set_option maxRecDepth 100000 in
theorem impl_mirrored.calls (k : Nat) (a0 : Int) (A1 : Option Addr) (c1 : Nat) (l1 : List (S46)) (r : List (S46)) (w : World) (hr1 : Kd.C k46 w A1 l1.length l1) (hc1 : l1.length ≤ c1) (h : impl_mirrored.f k a0 l1 = some r) :
  Calls Tryz.prog 44 #[.int .i64 a0, .slice A1 l1.length c1] w fun e w' => ∃ v0_ : Value, e = .returned (v0_) ∧ Kd.R k46 46 w' w.heap.size (fun _ => True) v0_ r ∧ Below w.heap.size w w' := by
 have HR1 := Aside0.mk hr1; have HC1 := Aside0.mk hc1; have H := Aside0.mk (show impl_renamed_at_impl_mirrored_1.f a0 k l1 = some r from h)
 clear hr1 hc1 h
 go_enter Tryz.func44, Tryz.ntmps44
 go_wp2_with (first | ((with_reducible refine gate_dst (N := 2) rfl ?_); refine be_ #[.int .i64 a0] 3 ?_; intro gb1 hgb w9 hbox hb; have HX1 := Aside0.mk hbox; have HB1 := Aside0.mk hb; clear hgb hbox hb) | (go_at_call 66; refine (impl_renamed_at_impl_mirrored_1.calls a0 gb1 k A1 c1 l1 r w9 (Kd.C_below HR1.out HB1.out) HC1.out H.out HX1.out).mono ?_; rintro e w11 ⟨v0, rfl, ho, hb⟩; have HO := Aside0.mk ho; have HB3 := Aside0.mk hb; clear ho hb))
 go_ret
 exact ⟨_, rfl, Kd.R_lower HO.out (below_size HB1.out), below_step HB1.out HB3.out⟩
def impl_MirrorPolygon.f (k : Nat) (a0 : Int) (l1 : List (S46)) : Option ((List (S46)) × Bool) := (impl_IsTriangulation.f k a0 l1).bind fun t548 => (if t548 = true then ((impl_mirrored.f k a0 l1).bind fun t549 => (some (t549, true))) else (some (([] : List (S46)), false)))
set_option maxHeartbeats 8000000 in
set_option maxRecDepth 100000 in
theorem impl_MirrorPolygon.calls (k : Nat) (a0 : Int) (A1 : Option Addr) (c1 : Nat) (l1 : List (S46)) (r1 : List (S46)) (r2 : Bool) (w : World) (hr1 : Kd.C k46 w A1 l1.length l1) (hc1 : l1.length ≤ c1) (h : impl_MirrorPolygon.f k a0 l1 = some (r1, r2)) :
  Calls Tryz.prog 16 #[.int .i64 a0, .slice A1 l1.length c1] w fun e w' => ∃ v0_ : Value, e = .returned (.tuple #[v0_, .bool r2]) ∧ Kd.R k46 46 w' w.heap.size (fun _ => True) v0_ r1 ∧ Below w.heap.size w w' := by
 have HR1 := Aside0.mk hr1; have HC1 := Aside0.mk hc1; clear hr1 hc1; have HB := Aside0.mk (Below.refl w.heap.size w); have H : ((impl_IsTriangulation.f k a0 l1).bind fun t548 => (if t548 = true then ((impl_mirrored.f k a0 l1).bind fun t549 => (some (t549, true))) else (some (([] : List (S46)), false)))) = some (r1, r2) := h
 clear h; replace H := Option.bind_eq_some_iff.mp H; obtain ⟨t548, A30, H⟩ := H; have A3 := Aside0.mk A30; clear A30
 by_cases c4 : t548 = true
 ·subst c4
  rw [if_pos rfl] at H
  replace H := Option.bind_eq_some_iff.mp H; obtain ⟨t549, A50, H⟩ := H; have A5 := Aside0.mk A50; clear A50
  simp only [Option.some.injEq, Prod.mk.injEq] at H
  obtain ⟨rfl, rfl⟩ := H
  go_enter Tryz.func16, Tryz.ntmps16
  go_wp2_with (first | ((with_reducible refine gate_callee (f := 21) rfl ?_); refine gl_ (some 8) Tryz.func21 #[.int .i64 a0, .slice A1 l1.length c1] rfl ?_; (with_reducible refine (impl_IsTriangulation.calls k a0 _ _ l1 true _ ?side1 ?side2 A3.out).mono ?_); (case side1 => exact cc_ HR1.out); (case side2 => exact HC1.out); rintro e w6 ⟨rfl, hb⟩; refine ⟨_, rfl, ?_⟩; replace HB := Aside0.mk (below_step (bl_ HB.out) hb); (try clear hb); (try clear hb2); (try clear hk); (try clear hi)) | ((with_reducible refine gate_callee (f := 44) rfl ?_); refine gl_ (some 12) Tryz.func44 #[.int .i64 a0, .slice A1 l1.length c1] rfl ?_; (with_reducible refine (impl_mirrored.calls k a0 _ _ l1 t549 _ ?side1 ?side2 A5.out).mono ?_); (case side1 => exact cc_ (Kd.C_below HR1.out HB.out)); (case side2 => exact HC1.out); rintro e w7 ⟨v550, rfl, ho0, hb⟩; refine ⟨_, rfl, ?_⟩; have HO551 := Aside0.mk (Kd.R_lower ho0 (below_size (bl_ HB.out))); replace HB := Aside0.mk (below_step (bl_ HB.out) hb); (try clear hb); (try clear hb2); (try clear hk); (try clear hi); (try clear ho0)))
  go_ret2
  exact ⟨_, by first | rfl | (simp [errW_none, errW_some] <;> rfl) | (simp [*, errW_none, errW_some] <;> rfl), by (with_reducible repeat (first | apply Kd.R_alloc | apply Kd.R_drewN | apply Kd.R_drew)); exact HO551.out, bl_ HB.out⟩
 ·replace c4 := Bool.eq_false_iff.mpr c4
  subst c4; rw [if_neg (show ¬ (false = true) by decide)] at H
  simp only [Option.some.injEq, Prod.mk.injEq] at H
  obtain ⟨rfl, rfl⟩ := H
  go_enter Tryz.func16, Tryz.ntmps16
  go_wp2_with (first | ((with_reducible refine gate_callee (f := 21) rfl ?_); refine gl_ (some 8) Tryz.func21 #[.int .i64 a0, .slice A1 l1.length c1] rfl ?_; (with_reducible refine (impl_IsTriangulation.calls k a0 _ _ l1 false _ ?side1 ?side2 A3.out).mono ?_); (case side1 => exact cc_ HR1.out); (case side2 => exact HC1.out); rintro e w8 ⟨rfl, hb⟩; refine ⟨_, rfl, ?_⟩; replace HB := Aside0.mk (below_step (bl_ HB.out) hb); (try clear hb); (try clear hb2); (try clear hk); (try clear hi)))
  go_ret2
  exact ⟨_, by first | rfl | (simp [errW_none, errW_some] <;> rfl) | (simp [*, errW_none, errW_some] <;> rfl), by first | exact Kd.R_nil _ _ _ _ _ | exact Kd.N_nil _ _ _ _ _ | exact Kd.V_nil _ _ _ _ _ | exact Kd.Q_nil _ _ _ _ _ | exact Kd.S_nil _ _ _ _ _, bl_ HB.out⟩
def slices_Clone_int_int.f (l0 : List Int) : Option (List Int) := if 0 < l0.length ∧ l0.length ≤ 1048576 then some l0 else none
set_option maxHeartbeats 4000000 in
set_option maxRecDepth 100000 in
theorem slices_Clone_int_int.calls (A0 : Option Addr) (c0 : Nat) (l0 : List Int) (r : List Int) (w : World) (hr0 : Kd.C (Kd.int .i64) w A0 l0.length l0) (hc0 : l0.length ≤ c0) (h : slices_Clone_int_int.f l0 = some r) :
  Calls Tryz.prog 73 #[.slice A0 l0.length c0] w fun e w' => ∃ v0_ : Value, e = .returned (v0_) ∧ Kd.R (Kd.int .i64) 3 w' w.heap.size (fun _ => True) v0_ r ∧ Below w.heap.size w w' := by
 unfold slices_Clone_int_int.f at h
 by_cases hc : 0 < l0.length ∧ l0.length ≤ 1048576
 case neg => rw [if_neg hc] at h; cases h
 rw [if_pos hc] at h
 obtain ⟨h0, h1⟩ := hc; obtain rfl := Option.some.inj h; clear h; obtain ⟨ad, rfl, _⟩ := Kd.at_int hr0 0 (by omega) (by omega)
 have HR := Aside0.mk (Kd.reads_of_C (d := (0 : Int)) hr0); clear hr0; have q : ∀ (w : World) (a : Option Addr) (n c n' c' : Nat), (binOp .eql 27 (.slice a n c) (.slice none n' c')).run Tryz.prog w = .ok (.bool a.isNone) w := fun w a n c n' c' => Lib.run_eql_slice_nil w _ _ a n c n' c' Tryz.underlying27
 have HO := Aside0.mk (World.ownsRow_made (e := 3) (size := 1) w #[] 0 (Nat.le_refl _) (Nat.zero_le _) rfl)
 go_enter Tryz.func73, Tryz.ntmps73
 go_wp2_with (first | ((with_reducible refine gate_builtin (b := .append) rfl ?_); (refine print_append_row_of (w0 := w) (Value.int .i64) (0 : Int) w.heap.size rfl _ _ 27 3 (.int .i64 0) 8 rfl Tryz.underlying27 info3 rfl (by decide) (fun _ => rfl) (.slice (some ⟨w.heap.size, 0, none⟩) 0 0) [] l0 (some ad) l0.length c0 rfl rfl HO.out (HR.out.below (below_alloc (Below.refl _ _) _)) (below_alloc (Below.refl _ _) _) (by simp) (by simp only [List.length_nil]; omega) ?_; intro v1 w1 ho1 hb1 hg1 hat1)))
 go_ret
 exact ⟨_, rfl, Kd.R_of_own (by simpa using ho1) (fun _ _ => trivial), hb1⟩
def slices_Delete_int_int.f (l0 : List Int) (a1 : Int) (a2 : Int) : Option (List Int) := if (0 ≤ a1 ∧ a1 < l0.length) ∧ a2 = a1 + 1 then some (l0.eraseIdx a1.toNat) else none
theorem slices_Delete_int_int.row {g : Nat} {e : TypeId} {cur : Array Value} (vs : List Value) (w : World) (h : w.heap[g]? = some (.cells cur e (0, 0))) (hl : vs.length ≤ cur.size) :
  ∃ cur', (w.setCells g 0 vs).heap[g]? = some (.cells cur' e (0, 0)) ∧ cur'.size = cur.size ∧ ∀ m, m ≤ vs.length → cur'.toList.take m = vs.take m := by
 obtain ⟨cur', h1, h2, h3⟩ := setCells_row vs 0 w cur h (by omega)
 refine ⟨cur', h1, h2, fun m hm => ?_⟩
 rw [h3, List.take_zero, List.nil_append, List.take_append_of_le_length hm]
theorem slices_Delete_int_int.bel {w0 : World} {g : Nat} (hg : w0.heap.size ≤ g) (vs : List Value) (o : Nat) (w : World) (h : Below w0.heap.size w0 w) : Below w0.heap.size w0 (w.setCells g o vs) := by
 obtain ⟨h1, h2, h3, h4⟩ := setCells_same g vs o w; exact ⟨h1.trans h.os, h2.trans h.tape, h3.trans h.output, by rw [h4]; exact h.size, fun k hk => (setCells_far vs o k (by omega)).trans (h.block k hk)⟩
theorem slices_Delete_int_int.kept (P0_ : Nat → Prop) {g : Nat} (hg : P0_ g) (vs : List Value) (o : Nat) (w : World) (q : Nat) : Kept w ((w.drewN q).setCells g o vs) (fun k_ => P0_ k_) := by
 obtain ⟨_, _, _, h4⟩ := setCells_same g vs o (w.drewN q); exact ⟨by rw [h4]; exact Nat.le_refl _, fun i hi hn => setCells_far vs o i (fun e => hn (e ▸ hg))⟩
theorem slices_Delete_int_int.calls (P0_ : Nat → Prop) (u9000_ : Value) (l0 : List Int) (a1 : Int) (a2 : Int) (r : List Int) (w0 w : World) (hB : Below w0.heap.size w0 w) (ho0 : Kd.R (Kd.int .i64) 3 w w0.heap.size P0_ u9000_ l0) (h : slices_Delete_int_int.f l0 a1 a2 = some r) :
  Calls Tryz.prog 74 #[u9000_, .int .i64 a1, .int .i64 a2] w fun e w' => ∃ v0_ : Value, e = .returned (v0_) ∧ Kd.R (Kd.int .i64) 3 w' w0.heap.size (fun k_ => (P0_ k_ ∨ w.heap.size ≤ k_)) v0_ r ∧ Below w0.heap.size w0 w' ∧ Kept w w' (fun k_ => P0_ k_) := by
 unfold slices_Delete_int_int.f at h
 by_cases hc : (0 ≤ a1 ∧ a1 < l0.length) ∧ a2 = a1 + 1
 case neg => rw [if_neg hc] at h; cases h
 rw [if_pos hc] at h
 obtain rfl := Option.some.inj h; obtain ⟨⟨h0, h1⟩, rfl⟩ := hc; obtain ⟨i, rfl⟩ : ∃ i : Nat, a1 = i := ⟨a1.toNat, by omega⟩
 have hown := Kd.own_of_R ho0; have hP := ho0.1
 rcases hown.2 with ⟨_, hn⟩ | ⟨g, cap, cur, rfl, hbase, hheap, hnc, hcap, hcur, htake⟩
 ·omega
 have hP0 : P0_ g := hP g rfl; rw [Nat.mul_one] at htake hcur
 have hmx : maxLen = 9223372036854775807 := rfl
 have hat : ∀ j, j < l0.length → cur[j]? = some (.int .i64 (l0.getD j 0)) := by
  intro j hj; have e := encs_get (enc := Value.int .i64) (d := (0 : Int)) l0 j hj; rw [← htake, List.getElem?_take, if_pos hj] at e
  simpa using e
 have hc : ∀ j, j < l0.length → w.cell? ⟨g, 0 + j, none⟩ = some (.int .i64 (l0.getD j 0)) := fun j hj => by rw [Nat.zero_add, blk_cell hheap j]; exact hat j hj
 have hf : ∀ j, j < l0.length → w.frozen? ⟨g, 0 + j, none⟩ = false := fun j _ => blk_frozen hheap _
 have hlen : i < l0.length := by omega
 have hi1 : ((i : Int) + 1) = ((i + 1 : Nat) : Int) := by omega
 rw [hi1]; refine (Tryz.slices_Delete_int_cells g 0 l0.length cap i (i + 1) l0 w (Nat.le_refl _) hnc (by omega) (by omega) (by omega) hc hf).mono ?_
 rintro e w' ⟨rfl, q, rfl⟩
 have hnl : (((l0.take l0.length).take i ++ (l0.take l0.length).drop (i + 1) ++ List.replicate (i + 1 - i) 0).map (Value.int .i64)) = encs (Value.int .i64) (l0.eraseIdx i ++ [0]) := by
  rw [List.take_length, show i + 1 - i = 1 by omega, List.eraseIdx_eq_take_drop_succ]
  rfl
 rw [hnl]; have hel : (l0.eraseIdx i).length = l0.length - 1 := List.length_eraseIdx_of_lt hlen; have hlv : (encs (Value.int .i64) (l0.eraseIdx i ++ [0])).length = l0.length := by rw [encs_length, List.length_append, hel]; simp; omega
 obtain ⟨cur2, hh2, hs2, ht2⟩ := slices_Delete_int_int.row (encs (Value.int .i64) (l0.eraseIdx i ++ [0])) (w.drewN q) (blk_drewN hheap q) (by rw [hlv]; omega)
 have hbel : Below w0.heap.size w0 ((w.drewN q).setCells g 0 (encs (Value.int .i64) (l0.eraseIdx i ++ [0]))) := slices_Delete_int_int.bel hbase _ _ _ (pw_below_drewN hB q); refine ⟨_, rfl, Kd.R_of_own ?_ (fun k hk => .inl (by have e : g = k := (by simpa [Value.ownBlock] using hk); exact e ▸ hP0)), hbel, slices_Delete_int_int.kept P0_ hP0 _ _ _ q⟩
 rw [show ((i : Int)).toNat = i from Int.toNat_natCast i, hel]
 refine ⟨by simp only [encs_length, hel, Nat.mul_one], .inr ⟨g, cap, cur2, by rw [show i + 1 - i = 1 by omega], hbase, hh2, by omega, hcap, by rw [hs2, Nat.mul_one]; exact hcur, ?_⟩⟩
 rw [Nat.mul_one, ht2 (l0.length - 1) (by omega)]
 rw [encs_append, List.take_append_of_le_length (by rw [encs_length, hel]; exact Nat.le_refl _), List.take_of_length_le (by rw [encs_length, hel]; exact Nat.le_refl _)]
end Go.Proofs.YtobddjeefcoikaaGreat.PFnQuidditiesTell
