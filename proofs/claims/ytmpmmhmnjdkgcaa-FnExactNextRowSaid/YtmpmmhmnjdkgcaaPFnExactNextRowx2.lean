-- Written for this claim by a program of this session (wip/tools/xprint.py over the kit's printer, wip/tools/shrink.py).
import Derived.Test.YtmpmmhmnjdkgcaaPFnExactNextRowx0
namespace Go.Proofs.Ytmpmmhmnjdkgcaa.PFnExactNextRow
open Go.RowKit Go.Proofs.YtmpmmhmnjdkgcaaW.PrintWords Go.Proofs.YtmpmmhmnjdkgcaaW.PrintLast Go.Proofs.YtmpmmhmnjdkgcaaW.PrintMore
attribute [local go_sem] max2_int min2_int max_two min_two max_three min_three max_four min_four   -- for this text's walks alone
set_option linter.unusedVariables false
set_option linter.unusedSimpArgs false
def impl_within.f (a0 : Int) (a1 : Int) (a2 : Int) : Option (Bool) := if a0 ≥ a1 then (some (decide (a0 ≤ a2))) else (some false)
set_option maxHeartbeats 8000000 in
set_option maxRecDepth 100000 in
theorem impl_within.calls (a0 : Int) (a1 : Int) (a2 : Int) (r : Bool) (w : World) (h : impl_within.f a0 a1 a2 = some r) :
  Calls Try.prog 47 #[.int .i64 a0, .int .i64 a1, .int .i64 a2] w fun e w' => e = .returned (.bool r) ∧ Drawn0 w w' := by
 have H : (if a0 ≥ a1 then (some (decide (a0 ≤ a2))) else (some false)) = some r := h
 clear h
 by_cases c4 : a0 ≥ a1
 ·rw [if_pos c4] at H
  have c4b0 : decide (a1 ≤ a0) = true := decide_eq_true c4; clear c4; obtain rfl := Option.some.inj H
  go_enter Try.func47, Try.ntmps47
  go_wp2
  go_ret
  exact ⟨fs_, dr_⟩
 ·rw [if_neg c4] at H
  have c4b0 : decide (a1 ≤ a0) = false := decide_eq_false c4; clear c4; obtain rfl := Option.some.inj H
  go_enter Try.func47, Try.ntmps47
  go_wp2
  go_ret
  exact ⟨fs_, dr_⟩
def impl_isPolygon.f (a0 : Int) : Option (Bool) := (impl_within.f a0 3 12).bind fun t126 => (some t126)
set_option maxHeartbeats 8000000 in
set_option maxRecDepth 100000 in
theorem impl_isPolygon.calls (a0 : Int) (r : Bool) (w : World) (h : impl_isPolygon.f a0 = some r) :
  Calls Try.prog 67 #[.int .i64 a0] w fun e w' => e = .returned (.bool r) ∧ Drawn0 w w' := by
 have H : ((impl_within.f a0 3 12).bind fun t126 => (some t126)) = some r := h
 clear h; replace H := Option.bind_eq_some_iff.mp H; obtain ⟨t126, A20, H⟩ := H; replace H : (some t126) = some r := H; have A2 := Aside0.mk A20; clear A20; obtain rfl := Option.some.inj H
 go_enter Try.func67, Try.ntmps67
 go_wp2_with (first | ((with_reducible refine gate_callee (f := 47) rfl ?_); refine goesL_ (some 4) rfl rfl Try.func47 (by kernel_rfl) rfl #[.int .i64 a0, .int .i64 3, .int .i64 12] rfl (by (try simp only [List.map_toArray, List.map_cons, List.map_nil]); first | done | rfl | (simp only [List.length_drop, List.length_take]; rfl)) ?_; (with_reducible refine (impl_within.calls a0 3 12 t126 _ A2.out).mono ?_); rintro e w' ⟨rfl, ⟨nd, rfl⟩⟩; refine ⟨_, rfl, ?_⟩))
 go_ret
 exact ⟨fs_, dr_⟩
def impl_isRow.p (m x : Int) : Bool := decide (1 ≤ x ∧ x ≤ m)
def impl_isRow.f (l0 : List Int) (a1 : Int) : Option Bool := some (decide (3 ≤ (l0.length : Int) ∧ (l0.length : Int) ≤ 12) && l0.all (impl_isRow.p a1))
theorem impl_isRow.wi (a b c : Int) : impl_within.f a b c = some (decide (b ≤ a ∧ a ≤ c)) := by
 unfold impl_within.f
 split <;> simp <;> omega
theorem impl_isRow.po (n : Int) : impl_isPolygon.f n = some (decide (3 ≤ n ∧ n ≤ 12)) := by
 unfold impl_isPolygon.f
 rw [impl_isRow.wi]; rfl
set_option maxHeartbeats 4000000 in
set_option maxRecDepth 100000 in
theorem impl_isRow.clo (g : Nat) (m x : Int) (w : World) (hg : w.heap[g]? = some (.cells #[.int .i64 m] 3 (0, 0))) :
  Calls Try.prog 79 #[.int .i64 x, .pointer (some ⟨g, 0, none⟩)] w fun e w' => e = .returned (.bool (!(impl_isRow.p m x))) ∧ Below w.heap.size w w' := by
 have hc0 : w.cell? ⟨g, 0, none⟩ = some (.int .i64 m) := (blk_cell hg 0).trans rfl; clear hg
 go_enter Try.func79, Try.ntmps79
 go_wp2_with (go_at_call 47; (with_reducible refine (impl_within.calls x 1 m _ _ (impl_isRow.wi x 1 m)).mono ?_); rintro e w10 ⟨rfl, hd_⟩; have HB10 := Aside0.mk (Lw.below_of hd_); clear hd_)
 go_ret
 exact ⟨by unfold impl_isRow.p; by_cases h1 : 1 ≤ x <;> by_cases h2 : x ≤ m <;> simp [h1, h2], HB10.out⟩
set_option maxHeartbeats 4000000 in
set_option maxRecDepth 100000 in
theorem impl_isRow.idx (A0 : Option Addr) (c0 : Nat) (l0 : List Int) (g : Nat) (m : Int) (w : World) (hr0 : Kd.C (Kd.int .i64) w A0 l0.length l0) (hc0 : l0.length ≤ c0) (hl : l0.length ≤ 1048576) (hg : w.heap[g]? = some (.cells #[.int .i64 m] 3 (0, 0))) :
  Calls Try.prog 86 #[.slice A0 l0.length c0, .func (.func 79) #[] #[.pointer (some ⟨g, 0, none⟩)]] w fun e w' => (∃ i : Int, e = .returned (.int .i64 i) ∧ (0 ≤ i ↔ l0.all (impl_isRow.p m) = false)) ∧ Below w.heap.size w w' := by
 have HR0 := Aside0.mk hr0; have HC0 := Aside0.mk hc0; have HG := Aside0.mk hg; clear hr0 hc0 hg; have HB := Aside0.mk (Below.refl w.heap.size w)
 have HL : ∀ x : Int, 0 ≤ x → x < (l0.length : Int) → (l0.take (x.toNat + 1)).all (impl_isRow.p m) = ((l0.take x.toNat).all (impl_isRow.p m) && impl_isRow.p m (rd l0 x)) := by
  intro x hx0 hx
  have h1 : l0[x.toNat]? = some (rd l0 x) := by
   have : x.toNat < l0.length := by omega
   simp [rd, this]
  rw [List.take_add_one, h1, List.all_append]
  simp
 go_enter Try.func86, Try.ntmps86
 go_wp2
 go_loopg [8] (l0.length + 1) (fun kq v8 w' => ∃ (x : Int), v8 = .int .i64 x ∧ Aside0 (0 ≤ x ∧ (kq : Int) + x = l0.length + 1) ∧ Aside0 ((l0.take x.toNat).all (impl_isRow.p m) = true) ∧ Aside0 (Below w.heap.size w w'))
 case atStart => exact ⟨0, rfl, ⟨by omega⟩, ⟨by simp⟩, HB⟩
 case round =>
  clear HB; obtain ⟨x, rfl, HK, HN, HB⟩ := hrel
  by_cases c4 : x < (l0.length : Int)
  ·have c4b0 : decide (x < (l0.length : Int)) = true := decide_eq_true c4
   have p1 : 0 ≤ x := HK.out.1; obtain ⟨ad, e1, hx0⟩ := Kd.at_int HR0.out x p1 c4
   cases e1
   replace hx0 := (HB.out.cell (World.block_lt_of_cell? w _ hx0)).trans hx0; have h3 := HL x p1 c4; have h4 : wrap64 (x + 1) = x + 1 := by simp only [wrap64]; omega
   replace p1 := eq_true p1; have q1 := eq_true c4
   cases hP : impl_isRow.p m (rd l0 x) with
   | false =>
    go_wp2_with (go_at_call 79; refine (impl_isRow.clo g m _ _ (blk_below HG.out HB.out)).mono ?_; rw [hP]; rintro e w10 ⟨rfl, hb2⟩; have HB10 := Aside0.mk (below_step HB.out hb2))
    go_ret
    exact ⟨⟨_, rfl, ⟨fun _ => by rw [← List.take_append_drop (x.toNat + 1) l0, List.all_append, h3, hP]; simp, fun _ => HK.out.1⟩⟩, HB10.out⟩
   | true =>
    go_wp2_with (go_at_call 79; refine (impl_isRow.clo g m _ _ (blk_below HG.out HB.out)).mono ?_; rw [hP]; rintro e w10 ⟨rfl, hb2⟩; have HB10 := Aside0.mk (below_step HB.out hb2))
    go_roundg (gk - 1)
    case measure => have := HK.out; omega
    case rel => exact ⟨x + 1, by first | rfl | (simp only [i64_w, h4]; done) | (simp [h4]; done), ⟨by have := HK.out; omega⟩, ⟨by rw [show (x + 1).toNat = x.toNat + 1 by have := HK.out; omega, h3, HN.out, hP]; rfl⟩, HB10⟩
  ·have c4b0 : decide (x < (l0.length : Int)) = false := decide_eq_false c4
   go_wp2
   go_ret
   have h2 := HN.out; rw [List.take_of_length_le (by omega)] at h2
   exact ⟨⟨-1, rfl, Iff.intro (fun h => absurd h (by decide)) (fun h => by first | (rw [h2] at h; cases h; done) | (obtain ⟨y, hy, hy2⟩ := h; have h5 := List.all_eq_true.1 h2 y hy; rw [hy2] at h5; cases h5))⟩, HB.out⟩
set_option maxHeartbeats 4000000 in
set_option maxRecDepth 100000 in
theorem impl_isRow.con (A0 : Option Addr) (c0 : Nat) (l0 : List Int) (g : Nat) (m : Int) (w : World) (hr0 : Kd.C (Kd.int .i64) w A0 l0.length l0) (hc0 : l0.length ≤ c0) (hl : l0.length ≤ 1048576) (hg : w.heap[g]? = some (.cells #[.int .i64 m] 3 (0, 0))) :
  Calls Try.prog 72 #[.slice A0 l0.length c0, .func (.func 79) #[] #[.pointer (some ⟨g, 0, none⟩)]] w fun e w' => e = .returned (.bool (!(l0.all (impl_isRow.p m)))) ∧ Below w.heap.size w w' := by
 go_enter Try.func72, Try.ntmps72
 go_wp2_with (go_at_call 86; refine (impl_isRow.idx A0 c0 l0 g m _ hr0 hc0 hl hg).mono ?_; rintro e w10 ⟨⟨i, rfl, hi0⟩, hb2⟩; have HI := Aside0.mk hi0; clear hi0; have HB10 := Aside0.mk hb2)
 go_ret
 have hi1 := HI.out; have h9 : decide (0 ≤ i) = !(l0.all (impl_isRow.p m)) := by rw [Bool.eq_iff_iff, decide_eq_true_iff, hi1]; cases l0.all (impl_isRow.p m) <;> simp
 exact ⟨by rw [← h9]; rfl, HB10.out⟩
set_option maxHeartbeats 4000000 in
set_option maxRecDepth 100000 in
theorem impl_isRow.calls (A0 : Option Addr) (c0 : Nat) (l0 : List Int) (a1 : Int) (r : Bool) (w : World) (hr0 : Kd.C (Kd.int .i64) w A0 l0.length l0) (hc0 : l0.length ≤ c0) (h : impl_isRow.f l0 a1 = some r) :
  Calls Try.prog 60 #[.slice A0 l0.length c0, .int .i64 a1] w fun e w' => e = .returned (.bool r) ∧ Below w.heap.size w w' := by
 obtain rfl := Option.some.inj h; clear h; have HR0 := Aside0.mk hr0; have HC0 := Aside0.mk hc0; clear hr0 hc0
 by_cases hp : 3 ≤ (l0.length : Int) ∧ (l0.length : Int) ≤ 12
 ·have HP := Aside0.mk ((impl_isRow.po (l0.length : Int)).trans (by rw [decide_eq_true hp]))
  have HL := Aside0.mk (show l0.length ≤ 1048576 by omega)
  rw [decide_eq_true hp, Bool.true_and]; clear hp
  go_enter Try.func60, Try.ntmps60
  go_wp2_with (first | ((with_reducible refine gate_dst (N := 3) rfl ?_); refine box_event ?hg (N := 3) ?hd (cs := #[.int .i64 a1]) (t := 3) ?hr ?_; (case hd => rfl); (case hg => rfl); (case hr => first | (go_simp; done) | (go_simp; rfl)); intro gb1 hgb w9 hbox hb; have HX1 := Aside0.mk hbox; have HB1 := Aside0.mk hb; clear hgb hbox hb) | (go_at_call 67; (with_reducible refine (impl_isPolygon.calls (l0.length : Int) true _ HP.out).mono ?_); rintro e w10 ⟨rfl, hd_⟩; have HB2 := Aside0.mk (below_step HB1.out (Lw.below_of hd_)); have HX2 := Aside0.mk (blk_below HX1.out (Lw.below_of hd_)); clear hd_) | (go_at_call 72; refine (impl_isRow.con A0 c0 l0 gb1 a1 _ (Kd.C_below HR0.out HB2.out) HC0.out HL.out HX2.out).mono ?_; rintro e w11 ⟨rfl, hb3⟩; have HB3 := Aside0.mk (below_step HB2.out hb3); clear hb3))
  go_ret
  exact ⟨by first | rfl | (rw [Bool.not_not]; done) | (simp; done), HB3.out⟩
 ·have HP := Aside0.mk ((impl_isRow.po (l0.length : Int)).trans (by rw [decide_eq_false hp]))
  rw [decide_eq_false hp, Bool.false_and]; clear hp
  go_enter Try.func60, Try.ntmps60
  go_wp2_with (first | ((with_reducible refine gate_dst (N := 3) rfl ?_); refine box_event ?hg (N := 3) ?hd (cs := #[.int .i64 a1]) (t := 3) ?hr ?_; (case hd => rfl); (case hg => rfl); (case hr => first | (go_simp; done) | (go_simp; rfl)); intro gb1 hgb w9 hbox hb; have HX1 := Aside0.mk hbox; have HB1 := Aside0.mk hb; clear hgb hbox hb) | (go_at_call 67; (with_reducible refine (impl_isPolygon.calls (l0.length : Int) false _ HP.out).mono ?_); rintro e w10 ⟨rfl, hd_⟩; have HB2 := Aside0.mk (below_step HB1.out (Lw.below_of hd_)); clear hd_))
  go_ret
  exact ⟨rfl, HB2.out⟩
mutual
def impl_NextRow.j0 : Nat → List Int → List Int → Bool → Option (List Int × Bool)
 | 0, _, _, _ => none
 | k + 1, x0, x1, x25 => if x25 = true then (some (([] : List Int), false)) else (impl_NextRow.l0 k x0 x1 (([] : List Int)) (x1.length : Int) (x1.length : Int) 0)
def impl_NextRow.l0 : Nat → List Int → List Int → List Int → Int → Int → Int → Option (List Int × Bool)
 | 0, _, _, _, _, _, _ => none
 | k + 1, x0, x1, x6, x7, x30, x31 => if x31 < x30 then (if x7 = 0 then (none) else (if 0 ≤ x31 then (if x31 < (x1.length : Int) then (if 0 ≤ (Int.tmod (wrap64 (x31 + 1)) x7) then (if (Int.tmod (wrap64 (x31 + 1)) x7) < (x1.length : Int) then (if (Int.tmod (wrap64 (x31 + 1)) x7) < (x0.length : Int) then (if (rd x0 (Int.tmod (wrap64 (x31 + 1)) x7)) = 0 then (none) else (if (Int.tmod (wrap64 ((wrap64 ((rd x1 x31) * (rd x1 (Int.tmod (wrap64 (x31 + 1)) x7)))) - 1)) (rd x0 (Int.tmod (wrap64 (x31 + 1)) x7))) = 0 then (if x6.length < 17592186044416 then (impl_NextRow.l0 k x0 x1 (x6 ++ [wrap64 (Int.tdiv (wrap64 ((wrap64 ((rd x1 x31) * (rd x1 (Int.tmod (wrap64 (x31 + 1)) x7)))) - 1)) (rd x0 (Int.tmod (wrap64 (x31 + 1)) x7)))]) x7 x30 (wrap64 (x31 + 1))) else (none)) else (some (([] : List Int), false)))) else (none)) else (none)) else (none)) else (none)) else (none))) else ((impl_isRow.f x6 10000).bind fun t139 => (if t139 = true then (some (x6, true)) else (some (([] : List Int), false))))
end
def impl_NextRow.f (k : Nat) (l0 : List Int) (l1 : List Int) : Option (List Int × Bool) := (impl_isRow.f l0 10000).bind fun t127 => (if t127 = true then ((impl_isRow.f l1 10000).bind fun t128 => (if t128 = true then (impl_NextRow.j0 k l0 l1 ((l0.length : Int) != (l1.length : Int))) else (impl_NextRow.j0 k l0 l1 true))) else (impl_NextRow.j0 k l0 l1 true))
set_option maxHeartbeats 8000000 in
set_option maxRecDepth 100000 in
theorem impl_NextRow.calls (k : Nat) (A0 : Option Addr) (c0 : Nat) (l0 : List Int) (A1 : Option Addr) (c1 : Nat) (l1 : List Int) (r1 : List Int) (r2 : Bool) (w : World) (hr0 : Kd.C (Kd.int .i64) w A0 l0.length l0) (hc0 : l0.length ≤ c0) (hr1 : Kd.C (Kd.int .i64) w A1 l1.length l1) (hc1 : l1.length ≤ c1) (h : impl_NextRow.f k l0 l1 = some (r1, r2)) :
  Calls Try.prog 30 #[.slice A0 l0.length c0, .slice A1 l1.length c1] w fun e w' => ∃ v0_ : Value, e = .returned (.tuple #[v0_, .bool r2]) ∧ Kd.R (Kd.int .i64) 3 w' w.heap.size (fun _ => True) v0_ r1 ∧ Below w.heap.size w w' := by
 have HR0 := Aside0.mk hr0; have HC0 := Aside0.mk hc0; clear hr0 hc0; have HR1 := Aside0.mk hr1; have HC1 := Aside0.mk hc1; clear hr1 hc1; have HB := Aside0.mk (Below.refl w.heap.size w); have H : ((impl_isRow.f l0 10000).bind fun t127 => (if t127 = true then ((impl_isRow.f l1 10000).bind fun t128 => (if t128 = true then (impl_NextRow.j0 k l0 l1 ((l0.length : Int) != (l1.length : Int))) else (impl_NextRow.j0 k l0 l1 true))) else (impl_NextRow.j0 k l0 l1 true))) = some (r1, r2) := h
 clear h; have HC3 := Aside0.mk H; clear H
 go_enter Try.func30, Try.ntmps30
 go_upto_region 1 with (fail)
 repeat (go_quiet (fail); go_upto_region 1 with (fail))
 go_cut [25] (fun v25 wc => ∃ (kq : Nat) (x25_2 : Bool), v25 = .bool x25_2 ∧ Aside0 (impl_NextRow.j0 kq l0 l1 x25_2 = some (r1, r2)) ∧ Aside0 (kq ≤ k) ∧ Aside0 (Below w.heap.size w wc))
 case first =>
  have H := HC3.out; clear HC3; replace H := Option.bind_eq_some_iff.mp H; obtain ⟨t127, A40, H⟩ := H; replace H : (if t127 = true then ((impl_isRow.f l1 10000).bind fun t128 => (if t128 = true then (impl_NextRow.j0 k l0 l1 ((l0.length : Int) != (l1.length : Int))) else (impl_NextRow.j0 k l0 l1 true))) else (impl_NextRow.j0 k l0 l1 true)) = some (r1, r2) := H
  have A4 := Aside0.mk A40; clear A40
  by_cases c5 : t127 = true
  ·subst c5
   have H1 : ((impl_isRow.f l1 10000).bind fun t128 => (if t128 = true then (impl_NextRow.j0 k l0 l1 ((l0.length : Int) != (l1.length : Int))) else (impl_NextRow.j0 k l0 l1 true))) = some (r1, r2) := by rw [if_pos rfl] at H; exact H
   clear H; have H := H1; clear H1; replace H := Option.bind_eq_some_iff.mp H; obtain ⟨t128, A60, H⟩ := H; replace H : (if t128 = true then (impl_NextRow.j0 k l0 l1 ((l0.length : Int) != (l1.length : Int))) else (impl_NextRow.j0 k l0 l1 true)) = some (r1, r2) := H
   have A6 := Aside0.mk A60; clear A60
   by_cases c7 : t128 = true
   ·subst c7
    have H1 : (impl_NextRow.j0 k l0 l1 ((l0.length : Int) != (l1.length : Int))) = some (r1, r2) := by rw [if_pos rfl] at H; exact H
    clear H; have H := H1; clear H1; have H' := Aside0.mk H; clear H
    go_wp2_with (first | (go_at_call 60; (with_reducible refine (impl_isRow.calls _ _ l0 10000 true _ ?side1 ?side2 A4.out).mono ?_); (case side1 => repeat (first | exact (Kd.C_below HR0.out HB.out) | (with_reducible refine Kd.C_alloc ?_ _) | (with_reducible refine Kd.C_drewN ?_ _) | (with_reducible refine Kd.C_drew ?_))); (case side2 => exact HC0.out); rintro e w8 ⟨rfl, hb⟩; have n0_ := Aside0.mk (below_step (bl_ HB.out) hb); clear HB; have HB := n0_; clear n0_; (try clear hb); (try clear hb2); (try clear hk); (try clear hi)) | (go_at_call 60; (with_reducible refine (impl_isRow.calls _ _ l1 10000 true _ ?side1 ?side2 A6.out).mono ?_); (case side1 => repeat (first | exact (Kd.C_below HR1.out HB.out) | (with_reducible refine Kd.C_alloc ?_ _) | (with_reducible refine Kd.C_drewN ?_ _) | (with_reducible refine Kd.C_drew ?_))); (case side2 => exact HC1.out); rintro e w9 ⟨rfl, hb⟩; have n0_ := Aside0.mk (below_step (bl_ HB.out) hb); clear HB; have HB := n0_; clear n0_; (try clear hb); (try clear hb2); (try clear hk); (try clear hi)))
    repeat (go_quiet (first | (go_at_call 60; (with_reducible refine (impl_isRow.calls _ _ l0 10000 true _ ?side1 ?side2 A4.out).mono ?_); (case side1 => repeat (first | exact (Kd.C_below HR0.out HB.out) | (with_reducible refine Kd.C_alloc ?_ _) | (with_reducible refine Kd.C_drewN ?_ _) | (with_reducible refine Kd.C_drew ?_))); (case side2 => exact HC0.out); rintro e w8 ⟨rfl, hb⟩; have n0_ := Aside0.mk (below_step (bl_ HB.out) hb); clear HB; have HB := n0_; clear n0_; (try clear hb); (try clear hb2); (try clear hk); (try clear hi)) | (go_at_call 60; (with_reducible refine (impl_isRow.calls _ _ l1 10000 true _ ?side1 ?side2 A6.out).mono ?_); (case side1 => repeat (first | exact (Kd.C_below HR1.out HB.out) | (with_reducible refine Kd.C_alloc ?_ _) | (with_reducible refine Kd.C_drewN ?_ _) | (with_reducible refine Kd.C_drew ?_))); (case side2 => exact HC1.out); rintro e w9 ⟨rfl, hb⟩; have n0_ := Aside0.mk (below_step (bl_ HB.out) hb); clear HB; have HB := n0_; clear n0_; (try clear hb); (try clear hb2); (try clear hk); (try clear hi))); try go_wp2_with (first | (go_at_call 60; (with_reducible refine (impl_isRow.calls _ _ l0 10000 true _ ?side1 ?side2 A4.out).mono ?_); (case side1 => repeat (first | exact (Kd.C_below HR0.out HB.out) | (with_reducible refine Kd.C_alloc ?_ _) | (with_reducible refine Kd.C_drewN ?_ _) | (with_reducible refine Kd.C_drew ?_))); (case side2 => exact HC0.out); rintro e w8 ⟨rfl, hb⟩; have n0_ := Aside0.mk (below_step (bl_ HB.out) hb); clear HB; have HB := n0_; clear n0_; (try clear hb); (try clear hb2); (try clear hk); (try clear hi)) | (go_at_call 60; (with_reducible refine (impl_isRow.calls _ _ l1 10000 true _ ?side1 ?side2 A6.out).mono ?_); (case side1 => repeat (first | exact (Kd.C_below HR1.out HB.out) | (with_reducible refine Kd.C_alloc ?_ _) | (with_reducible refine Kd.C_drewN ?_ _) | (with_reducible refine Kd.C_drew ?_))); (case side2 => exact HC1.out); rintro e w9 ⟨rfl, hb⟩; have n0_ := Aside0.mk (below_step (bl_ HB.out) hb); clear HB; have HB := n0_; clear n0_; (try clear hb); (try clear hb2); (try clear hk); (try clear hi))))
    go_meet
    case rel => exact ⟨_, (((l0.length : Int) != (l1.length : Int))), (fs_), H', ⟨by first | omega | exact Nat.le_refl _⟩, ⟨bl_ HB.out⟩⟩
   ·replace c7 := Bool.eq_false_iff.mpr c7
    subst c7; have H1 : (impl_NextRow.j0 k l0 l1 true) = some (r1, r2) := by rw [if_neg (show ¬ (false = true) by decide)] at H; exact H
    clear H; have H := H1; clear H1; have H' := Aside0.mk H; clear H
    go_wp2_with (first | (go_at_call 60; (with_reducible refine (impl_isRow.calls _ _ l0 10000 true _ ?side1 ?side2 A4.out).mono ?_); (case side1 => repeat (first | exact (Kd.C_below HR0.out HB.out) | (with_reducible refine Kd.C_alloc ?_ _) | (with_reducible refine Kd.C_drewN ?_ _) | (with_reducible refine Kd.C_drew ?_))); (case side2 => exact HC0.out); rintro e w10 ⟨rfl, hb⟩; have n0_ := Aside0.mk (below_step (bl_ HB.out) hb); clear HB; have HB := n0_; clear n0_; (try clear hb); (try clear hb2); (try clear hk); (try clear hi)) | (go_at_call 60; (with_reducible refine (impl_isRow.calls _ _ l1 10000 false _ ?side1 ?side2 A6.out).mono ?_); (case side1 => repeat (first | exact (Kd.C_below HR1.out HB.out) | (with_reducible refine Kd.C_alloc ?_ _) | (with_reducible refine Kd.C_drewN ?_ _) | (with_reducible refine Kd.C_drew ?_))); (case side2 => exact HC1.out); rintro e w11 ⟨rfl, hb⟩; have n0_ := Aside0.mk (below_step (bl_ HB.out) hb); clear HB; have HB := n0_; clear n0_; (try clear hb); (try clear hb2); (try clear hk); (try clear hi)))
    repeat (go_quiet (first | (go_at_call 60; (with_reducible refine (impl_isRow.calls _ _ l0 10000 true _ ?side1 ?side2 A4.out).mono ?_); (case side1 => repeat (first | exact (Kd.C_below HR0.out HB.out) | (with_reducible refine Kd.C_alloc ?_ _) | (with_reducible refine Kd.C_drewN ?_ _) | (with_reducible refine Kd.C_drew ?_))); (case side2 => exact HC0.out); rintro e w10 ⟨rfl, hb⟩; have n0_ := Aside0.mk (below_step (bl_ HB.out) hb); clear HB; have HB := n0_; clear n0_; (try clear hb); (try clear hb2); (try clear hk); (try clear hi)) | (go_at_call 60; (with_reducible refine (impl_isRow.calls _ _ l1 10000 false _ ?side1 ?side2 A6.out).mono ?_); (case side1 => repeat (first | exact (Kd.C_below HR1.out HB.out) | (with_reducible refine Kd.C_alloc ?_ _) | (with_reducible refine Kd.C_drewN ?_ _) | (with_reducible refine Kd.C_drew ?_))); (case side2 => exact HC1.out); rintro e w11 ⟨rfl, hb⟩; have n0_ := Aside0.mk (below_step (bl_ HB.out) hb); clear HB; have HB := n0_; clear n0_; (try clear hb); (try clear hb2); (try clear hk); (try clear hi))); try go_wp2_with (first | (go_at_call 60; (with_reducible refine (impl_isRow.calls _ _ l0 10000 true _ ?side1 ?side2 A4.out).mono ?_); (case side1 => repeat (first | exact (Kd.C_below HR0.out HB.out) | (with_reducible refine Kd.C_alloc ?_ _) | (with_reducible refine Kd.C_drewN ?_ _) | (with_reducible refine Kd.C_drew ?_))); (case side2 => exact HC0.out); rintro e w10 ⟨rfl, hb⟩; have n0_ := Aside0.mk (below_step (bl_ HB.out) hb); clear HB; have HB := n0_; clear n0_; (try clear hb); (try clear hb2); (try clear hk); (try clear hi)) | (go_at_call 60; (with_reducible refine (impl_isRow.calls _ _ l1 10000 false _ ?side1 ?side2 A6.out).mono ?_); (case side1 => repeat (first | exact (Kd.C_below HR1.out HB.out) | (with_reducible refine Kd.C_alloc ?_ _) | (with_reducible refine Kd.C_drewN ?_ _) | (with_reducible refine Kd.C_drew ?_))); (case side2 => exact HC1.out); rintro e w11 ⟨rfl, hb⟩; have n0_ := Aside0.mk (below_step (bl_ HB.out) hb); clear HB; have HB := n0_; clear n0_; (try clear hb); (try clear hb2); (try clear hk); (try clear hi))))
    go_meet
    case rel => exact ⟨_, (true), (fs_), H', ⟨by first | omega | exact Nat.le_refl _⟩, ⟨bl_ HB.out⟩⟩
  ·replace c5 := Bool.eq_false_iff.mpr c5
   subst c5; have H1 : (impl_NextRow.j0 k l0 l1 true) = some (r1, r2) := by rw [if_neg (show ¬ (false = true) by decide)] at H; exact H
   clear H; have H := H1; clear H1; have H' := Aside0.mk H; clear H
   go_wp2_with (first | (go_at_call 60; (with_reducible refine (impl_isRow.calls _ _ l0 10000 false _ ?side1 ?side2 A4.out).mono ?_); (case side1 => repeat (first | exact (Kd.C_below HR0.out HB.out) | (with_reducible refine Kd.C_alloc ?_ _) | (with_reducible refine Kd.C_drewN ?_ _) | (with_reducible refine Kd.C_drew ?_))); (case side2 => exact HC0.out); rintro e w12 ⟨rfl, hb⟩; have n0_ := Aside0.mk (below_step (bl_ HB.out) hb); clear HB; have HB := n0_; clear n0_; (try clear hb); (try clear hb2); (try clear hk); (try clear hi)))
   repeat (go_quiet (first | (go_at_call 60; (with_reducible refine (impl_isRow.calls _ _ l0 10000 false _ ?side1 ?side2 A4.out).mono ?_); (case side1 => repeat (first | exact (Kd.C_below HR0.out HB.out) | (with_reducible refine Kd.C_alloc ?_ _) | (with_reducible refine Kd.C_drewN ?_ _) | (with_reducible refine Kd.C_drew ?_))); (case side2 => exact HC0.out); rintro e w12 ⟨rfl, hb⟩; have n0_ := Aside0.mk (below_step (bl_ HB.out) hb); clear HB; have HB := n0_; clear n0_; (try clear hb); (try clear hb2); (try clear hk); (try clear hi))); try go_wp2_with (first | (go_at_call 60; (with_reducible refine (impl_isRow.calls _ _ l0 10000 false _ ?side1 ?side2 A4.out).mono ?_); (case side1 => repeat (first | exact (Kd.C_below HR0.out HB.out) | (with_reducible refine Kd.C_alloc ?_ _) | (with_reducible refine Kd.C_drewN ?_ _) | (with_reducible refine Kd.C_drew ?_))); (case side2 => exact HC0.out); rintro e w12 ⟨rfl, hb⟩; have n0_ := Aside0.mk (below_step (bl_ HB.out) hb); clear HB; have HB := n0_; clear n0_; (try clear hb); (try clear hb2); (try clear hk); (try clear hi))))
   go_meet
   case rel => exact ⟨_, (true), (fs_), H', ⟨by first | omega | exact Nat.le_refl _⟩, ⟨bl_ HB.out⟩⟩
 case rest =>
  clear HC3
  try clear c1
  try clear p2
  try clear c3
  try clear c5
  try clear c7
  obtain ⟨kq, x25_2, rfl, HA, HJ2, HB⟩ := hcut
  cases kq with
  | zero => exact absurd HA.out (by simp [impl_NextRow.j0])
  | succ kj2 =>
   have H := HA.out; clear HA
   simp only [impl_NextRow.j0] at H
   by_cases c13 : x25_2 = true
   ·subst c13
    have H1 : (some (([] : List Int), false)) = some (r1, r2) := by rw [if_pos rfl] at H; exact H
    clear H; have H := H1; clear H1
    simp only [Option.some.injEq, Prod.mk.injEq] at H
    obtain ⟨rfl, rfl⟩ := H
    go_wp2
    repeat (go_quiet (fail); try go_wp2)
    go_ret2
    exact ⟨_, by first | rfl | (simp [errW_none, errW_some] <;> rfl) | (simp [*, errW_none, errW_some] <;> rfl), by first | exact Kd.R_nil _ _ _ _ _ | exact Kd.N_nil _ _ _ _ _ | exact Kd.V_nil _ _ _ _ _ | exact Kd.Q_nil _ _ _ _ _ | exact Kd.S_nil _ _ _ _ _, bl_ HB.out⟩
   ·replace c13 := Bool.eq_false_iff.mpr c13
    subst c13; have H1 : (impl_NextRow.l0 kj2 l0 l1 (([] : List Int)) (l1.length : Int) (l1.length : Int) 0) = some (r1, r2) := by rw [if_neg (show ¬ (false = true) by decide)] at H; exact H
    clear H; have H := H1; clear H1; obtain ⟨y129, hy129⟩ : ∃ y_ : List Int, y_ = (([] : List Int)) := ⟨_, rfl⟩; replace H : (impl_NextRow.l0 kj2 l0 l1 y129 (l1.length : Int) (l1.length : Int) 0) = some (r1, r2) := rh_ hy129 H; have Ny129 := Aside0.mk hy129; clear hy129; have H' := Aside0.mk H; clear H
    go_wp2_with (first | ((with_reducible refine gate_dst (N := 26) rfl ?_); (try (refine gate_guard (by rfl) ?_; dsimp only)); refine Kd.R_lit (Kd.int .i64) _ 3 ?hg (N := 26) ?hd (xs := ([] : List Int)) (inner := []) (ok := fun _ => True) (okp := fun _ => True) ?hr ?hp (fun _ hk => hk) trivial (Below.refl _ _) (Nat.le_refl _) (by simp) ?_; (case hd => rfl); (case hg => rfl); (case hr => first | (go_simp; done) | (go_simp; rfl)); (case hp => exact (Reps.none _ _)); intro v130 w14 ho15 hb hg_ hnew_; clear hg_ hnew_; (first | rw [← Ny129.out] at ho15 | (simp only [Int.reduceToNat] at ho15; rw [← Ny129.out] at ho15)); have n0_ := Aside0.mk (Kd.R_lower ho15 (below_size (bl_ HB.out))); have n1_ := Aside0.mk (below_step (bl_ HB.out) hb); clear HB; have HO131 := n0_; have HB := n1_; clear n0_ n1_; clear hb ho15))
    repeat (go_quiet (first | ((with_reducible refine gate_dst (N := 26) rfl ?_); (try (refine gate_guard (by rfl) ?_; dsimp only)); refine Kd.R_lit (Kd.int .i64) _ 3 ?hg (N := 26) ?hd (xs := ([] : List Int)) (inner := []) (ok := fun _ => True) (okp := fun _ => True) ?hr ?hp (fun _ hk => hk) trivial (Below.refl _ _) (Nat.le_refl _) (by simp) ?_; (case hd => rfl); (case hg => rfl); (case hr => first | (go_simp; done) | (go_simp; rfl)); (case hp => exact (Reps.none _ _)); intro v130 w14 ho15 hb hg_ hnew_; clear hg_ hnew_; (first | rw [← Ny129.out] at ho15 | (simp only [Int.reduceToNat] at ho15; rw [← Ny129.out] at ho15)); have n0_ := Aside0.mk (Kd.R_lower ho15 (below_size (bl_ HB.out))); have n1_ := Aside0.mk (below_step (bl_ HB.out) hb); clear HB; have HO131 := n0_; have HB := n1_; clear n0_ n1_; clear hb ho15)); try go_wp2_with (first | ((with_reducible refine gate_dst (N := 26) rfl ?_); (try (refine gate_guard (by rfl) ?_; dsimp only)); refine Kd.R_lit (Kd.int .i64) _ 3 ?hg (N := 26) ?hd (xs := ([] : List Int)) (inner := []) (ok := fun _ => True) (okp := fun _ => True) ?hr ?hp (fun _ hk => hk) trivial (Below.refl _ _) (Nat.le_refl _) (by simp) ?_; (case hd => rfl); (case hg => rfl); (case hr => first | (go_simp; done) | (go_simp; rfl)); (case hp => exact (Reps.none _ _)); intro v130 w14 ho15 hb hg_ hnew_; clear hg_ hnew_; (first | rw [← Ny129.out] at ho15 | (simp only [Int.reduceToNat] at ho15; rw [← Ny129.out] at ho15)); have n0_ := Aside0.mk (Kd.R_lower ho15 (below_size (bl_ HB.out))); have n1_ := Aside0.mk (below_step (bl_ HB.out) hb); clear HB; have HO131 := n0_; have HB := n1_; clear n0_ n1_; clear hb ho15)))
    go_loopg [6, 31] kj2 (fun kq v6 v31 w' => ∃ (x6_2 : List Int) (x31_2 : Int), v31 = .int .i64 x31_2 ∧ Aside0 (impl_NextRow.l0 kq l0 l1 x6_2 (l1.length : Int) (l1.length : Int) x31_2 = some (r1, r2)) ∧ Aside0 (kq ≤ kj2) ∧ Aside0 (Kd.R (Kd.int .i64) 3 w' w.heap.size (fun _ => True) v6 x6_2) ∧ Aside0 (Below w.heap.size w w'))
    case atStart => exact ⟨(y129), (0), (fs_), H', ⟨Nat.le_refl _⟩, ⟨kr_ HO131.out⟩, ⟨bl_ HB.out⟩⟩
    case round =>
     clear H'
     try clear c1
     try clear p2
     try clear c3
     try clear c5
     try clear c7
     try clear c13
     try clear p2
     obtain ⟨x6_2, x31_2, rfl, HA, HK2, HO_6, HB⟩ := hrel
     cases gk with
     | zero => exact absurd HA.out (by simp [impl_NextRow.l0])
     | succ k2 =>
      have H := HA.out; clear HA
      simp only [impl_NextRow.l0] at H
      by_cases c16 : x31_2 < (l1.length : Int)
      ·rw [if_pos c16] at H
       have c16b0 : decide (x31_2 < (l1.length : Int)) = true := decide_eq_true c16; clear c16
       by_cases c17 : (l1.length : Int) = 0
       ·rw [if_pos c17] at H
        exact absurd H (by simp)
       ·rw [if_neg c17] at H
        have c17b0 : ((l1.length : Int) == 0) = false := beq_eq_false_iff_ne.mpr c17; have c17b1 : ((l1.length : Int) != 0) = true := bne_iff_ne.mpr c17; have c17b2 : ¬ (l1 = []) := fun h_ => c17 (by rw [h_]; rfl)
        by_cases c18 : 0 ≤ x31_2
        ·rw [if_pos c18] at H
         have c18b0 : decide (0 ≤ x31_2) = true := decide_eq_true c18; clear c18
         by_cases c19 : x31_2 < (l1.length : Int)
         ·rw [if_pos c19] at H
          have c19b0 : decide (x31_2 < (l1.length : Int)) = true := decide_eq_true c19; clear c19; obtain ⟨ji20, hji20⟩ : ∃ j_ : Int, (Int.tmod (wrap64 (x31_2 + 1)) (l1.length : Int)) = j_ := ⟨_, rfl⟩; replace H : (if 0 ≤ (ji20) then (if (ji20) < (l1.length : Int) then (if (ji20) < (l0.length : Int) then (if (rd l0 (ji20)) = 0 then (none) else (if (Int.tmod (wrap64 ((wrap64 ((rd l1 x31_2) * (rd l1 (ji20)))) - 1)) (rd l0 (ji20))) = 0 then (if x6_2.length < 17592186044416 then (impl_NextRow.l0 k2 l0 l1 (x6_2 ++ [wrap64 (Int.tdiv (wrap64 ((wrap64 ((rd l1 x31_2) * (rd l1 (ji20)))) - 1)) (rd l0 (ji20)))]) (l1.length : Int) (l1.length : Int) (wrap64 (x31_2 + 1))) else (none)) else (some (([] : List Int), false)))) else (none)) else (none)) else (none)) = some (r1, r2) := by first | (rw [hji20] at H; exact H) | (simp only [hji20] at H ⊢; exact H)
          by_cases c21 : 0 ≤ (ji20)
          ·rw [if_pos c21] at H
           have c21b0 : decide (0 ≤ (ji20)) = true := decide_eq_true c21; clear c21
           by_cases c22 : (ji20) < (l1.length : Int)
           ·rw [if_pos c22] at H
            have c22b0 : decide ((ji20) < (l1.length : Int)) = true := decide_eq_true c22; clear c22
            by_cases c23 : (ji20) < (l0.length : Int)
            ·rw [if_pos c23] at H
             have c23b0 : decide ((ji20) < (l0.length : Int)) = true := decide_eq_true c23; clear c23
             by_cases c24 : (rd l0 (ji20)) = 0
             ·rw [if_pos c24] at H
              exact absurd H (by simp)
             ·rw [if_neg c24] at H
              have c24b0 : ((rd l0 (ji20)) == 0) = false := beq_eq_false_iff_ne.mpr c24; have c24b1 : ((rd l0 (ji20)) != 0) = true := bne_iff_ne.mpr c24
              by_cases c25 : (Int.tmod (wrap64 ((wrap64 ((rd l1 x31_2) * (rd l1 (ji20)))) - 1)) (rd l0 (ji20))) = 0
              ·rw [if_pos c25] at H
               have c25b0 : ((Int.tmod (wrap64 ((wrap64 ((rd l1 x31_2) * (rd l1 (ji20)))) - 1)) (rd l0 (ji20))) == 0) = true := beq_iff_eq.mpr c25; have c25b1 : ((Int.tmod (wrap64 ((wrap64 ((rd l1 x31_2) * (rd l1 (ji20)))) - 1)) (rd l0 (ji20))) != 0) = false := bne_eq_false_iff_eq.mpr c25; clear c25
               by_cases c26 : x6_2.length < 17592186044416
               ·rw [if_pos c26] at H
                have LMc26 := Aside0.mk c26; clear c26; obtain ⟨y136, hy136⟩ : ∃ y_ : List Int, y_ = (x6_2 ++ [wrap64 (Int.tdiv (wrap64 ((wrap64 ((rd l1 x31_2) * (rd l1 (ji20)))) - 1)) (rd l0 (ji20)))]) := ⟨_, rfl⟩; replace H : (impl_NextRow.l0 k2 l0 l1 y136 (l1.length : Int) (l1.length : Int) (wrap64 (x31_2 + 1))) = some (r1, r2) := rh_ hy136 H; have Ny136 := Aside0.mk hy136; clear hy136; have H' := Aside0.mk H; clear H; have p132 : 0 ≤ (x31_2 : Int) := of_decide_eq_true as_; have q132 : x31_2 < (l1.length : Int) := of_decide_eq_true as_; obtain ⟨ad132, e132, hx132_0⟩ := Kd.at_int HR1.out x31_2 p132 q132
                cases e132
                replace hx132_0 := (HB.out.cell (World.block_lt_of_cell? w _ hx132_0)).trans hx132_0; replace p132 := eq_true p132; replace q132 := eq_true q132; have p133 : 0 ≤ ((ji20) : Int) := of_decide_eq_true as_; have q133 : (ji20) < (l1.length : Int) := of_decide_eq_true as_; obtain ⟨ad133, e133, hx133_0⟩ := Kd.at_int HR1.out (ji20) p133 q133; obtain rfl : ad132 = ad133 := (by injection e133)
                replace hx133_0 := (HB.out.cell (World.block_lt_of_cell? w _ hx133_0)).trans hx133_0; replace p133 := eq_true p133; replace q133 := eq_true q133; have p134 : 0 ≤ ((ji20) : Int) := of_decide_eq_true as_; have q134 : (ji20) < (l0.length : Int) := of_decide_eq_true as_; obtain ⟨ad134, e134, hx134_0⟩ := Kd.at_int HR0.out (ji20) p134 q134
                cases e134
                replace hx134_0 := (HB.out.cell (World.block_lt_of_cell? w _ hx134_0)).trans hx134_0; replace p134 := eq_true p134; replace q134 := eq_true q134; have p135 : 0 ≤ ((ji20) : Int) := of_decide_eq_true as_; have q135 : (ji20) < (l0.length : Int) := of_decide_eq_true as_; obtain ⟨ad135, e135, hx135_0⟩ := Kd.at_int HR0.out (ji20) p135 q135; obtain rfl : ad134 = ad135 := (by injection e135)
                replace hx135_0 := (HB.out.cell (World.block_lt_of_cell? w _ hx135_0)).trans hx135_0; replace p135 := eq_true p135; replace q135 := eq_true q135
                go_wp2_with (first | ((with_reducible refine gate_builtin (b := .append) (xs := #[.tmp 55, .tmp 62]) rfl ?_); (try (refine gate_guard (by rfl) ?_; dsimp only)); at_builtin; refine Kd.R_append (Kd.int .i64) (w0 := w) w.heap.size rfl (.tmp 55) (.tmp 62) 22 3 (.int .i64 0) 8 rfl Try.underlying22 info3 rfl (by decide) (by omega) u6 x6_2 (wrap64 (Int.tdiv (wrap64 ((wrap64 ((rd l1 x31_2) * (rd l1 (ji20)))) - 1)) (rd l0 (ji20)))) [.int .i64 (wrap64 (Int.tdiv (wrap64 ((wrap64 ((rd l1 x31_2) * (rd l1 (ji20)))) - 1)) (rd l0 (ji20))))] (fun _ => True) (fun _ => False) rfl rfl ?aP (fun _ hk => hk.elim) ?aF ?aO ?aB ?aS ?aL ?_; (case aP => exact rfl); (case aB => exact (bl_ HB.out)); (case aF => exact (fun _ _ => trivial)); (case aO => exact (kr_ HO_6.out)); (case aS => exact (below_size (bl_ HB.out))); (case aL => have := LMc26.out; omega); intro v137 w27 ho hb hg hat; rw [← Ny136.out] at ho; have n0_ := Aside0.mk (hb); have n1_ := Aside0.mk (ho); clear HB; clear HO_6; have HB := n0_; have HO138 := n1_; clear n0_ n1_; clear ho hb hg hat))
                repeat (go_quiet (first | ((with_reducible refine gate_builtin (b := .append) (xs := #[.tmp 55, .tmp 62]) rfl ?_); (try (refine gate_guard (by rfl) ?_; dsimp only)); at_builtin; refine Kd.R_append (Kd.int .i64) (w0 := w) w.heap.size rfl (.tmp 55) (.tmp 62) 22 3 (.int .i64 0) 8 rfl Try.underlying22 info3 rfl (by decide) (by omega) u6 x6_2 (wrap64 (Int.tdiv (wrap64 ((wrap64 ((rd l1 x31_2) * (rd l1 (ji20)))) - 1)) (rd l0 (ji20)))) [.int .i64 (wrap64 (Int.tdiv (wrap64 ((wrap64 ((rd l1 x31_2) * (rd l1 (ji20)))) - 1)) (rd l0 (ji20))))] (fun _ => True) (fun _ => False) rfl rfl ?aP (fun _ hk => hk.elim) ?aF ?aO ?aB ?aS ?aL ?_; (case aP => exact rfl); (case aB => exact (bl_ HB.out)); (case aF => exact (fun _ _ => trivial)); (case aO => exact (kr_ HO_6.out)); (case aS => exact (below_size (bl_ HB.out))); (case aL => have := LMc26.out; omega); intro v137 w27 ho hb hg hat; rw [← Ny136.out] at ho; have n0_ := Aside0.mk (hb); have n1_ := Aside0.mk (ho); clear HB; clear HO_6; have HB := n0_; have HO138 := n1_; clear n0_ n1_; clear ho hb hg hat)); try go_wp2_with (first | ((with_reducible refine gate_builtin (b := .append) (xs := #[.tmp 55, .tmp 62]) rfl ?_); (try (refine gate_guard (by rfl) ?_; dsimp only)); at_builtin; refine Kd.R_append (Kd.int .i64) (w0 := w) w.heap.size rfl (.tmp 55) (.tmp 62) 22 3 (.int .i64 0) 8 rfl Try.underlying22 info3 rfl (by decide) (by omega) u6 x6_2 (wrap64 (Int.tdiv (wrap64 ((wrap64 ((rd l1 x31_2) * (rd l1 (ji20)))) - 1)) (rd l0 (ji20)))) [.int .i64 (wrap64 (Int.tdiv (wrap64 ((wrap64 ((rd l1 x31_2) * (rd l1 (ji20)))) - 1)) (rd l0 (ji20))))] (fun _ => True) (fun _ => False) rfl rfl ?aP (fun _ hk => hk.elim) ?aF ?aO ?aB ?aS ?aL ?_; (case aP => exact rfl); (case aB => exact (bl_ HB.out)); (case aF => exact (fun _ _ => trivial)); (case aO => exact (kr_ HO_6.out)); (case aS => exact (below_size (bl_ HB.out))); (case aL => have := LMc26.out; omega); intro v137 w27 ho hb hg hat; rw [← Ny136.out] at ho; have n0_ := Aside0.mk (hb); have n1_ := Aside0.mk (ho); clear HB; clear HO_6; have HB := n0_; have HO138 := n1_; clear n0_ n1_; clear ho hb hg hat)))
                go_roundg k2
                case measure => have := HJ2.out; have := HK2.out; omega
                case rel => exact ⟨(y136), (wrap64 (x31_2 + 1)), (fs_), H', ⟨by have := HJ2.out; have := HK2.out; omega⟩, ⟨kr_ HO138.out⟩, ⟨bl_ HB.out⟩⟩
               ·rw [if_neg c26] at H
                exact absurd H (by simp)
              ·rw [if_neg c25] at H
               have c25b0 : ((Int.tmod (wrap64 ((wrap64 ((rd l1 x31_2) * (rd l1 (ji20)))) - 1)) (rd l0 (ji20))) == 0) = false := beq_eq_false_iff_ne.mpr c25; have c25b1 : ((Int.tmod (wrap64 ((wrap64 ((rd l1 x31_2) * (rd l1 (ji20)))) - 1)) (rd l0 (ji20))) != 0) = true := bne_iff_ne.mpr c25
               simp only [Option.some.injEq, Prod.mk.injEq] at H
               obtain ⟨rfl, rfl⟩ := H; have p132 : 0 ≤ (x31_2 : Int) := of_decide_eq_true as_; have q132 : x31_2 < (l1.length : Int) := of_decide_eq_true as_; obtain ⟨ad132, e132, hx132_0⟩ := Kd.at_int HR1.out x31_2 p132 q132
               cases e132
               replace hx132_0 := (HB.out.cell (World.block_lt_of_cell? w _ hx132_0)).trans hx132_0; replace p132 := eq_true p132; replace q132 := eq_true q132; have p133 : 0 ≤ ((ji20) : Int) := of_decide_eq_true as_; have q133 : (ji20) < (l1.length : Int) := of_decide_eq_true as_; obtain ⟨ad133, e133, hx133_0⟩ := Kd.at_int HR1.out (ji20) p133 q133; obtain rfl : ad132 = ad133 := (by injection e133)
               replace hx133_0 := (HB.out.cell (World.block_lt_of_cell? w _ hx133_0)).trans hx133_0; replace p133 := eq_true p133; replace q133 := eq_true q133; have p134 : 0 ≤ ((ji20) : Int) := of_decide_eq_true as_; have q134 : (ji20) < (l0.length : Int) := of_decide_eq_true as_; obtain ⟨ad134, e134, hx134_0⟩ := Kd.at_int HR0.out (ji20) p134 q134
               cases e134
               replace hx134_0 := (HB.out.cell (World.block_lt_of_cell? w _ hx134_0)).trans hx134_0; replace p134 := eq_true p134; replace q134 := eq_true q134
               go_wp2
               repeat (go_quiet (fail); try go_wp2)
               go_ret2
               exact ⟨_, by first | rfl | (simp [errW_none, errW_some] <;> rfl) | (simp only [← hji20]; first | rfl | (simp [errW_none, errW_some] <;> rfl)) | (simp [*, errW_none, errW_some] <;> rfl), by first | exact Kd.R_nil _ _ _ _ _ | exact Kd.N_nil _ _ _ _ _ | exact Kd.V_nil _ _ _ _ _ | exact Kd.Q_nil _ _ _ _ _ | exact Kd.S_nil _ _ _ _ _, bl_ HB.out⟩
            ·rw [if_neg c23] at H
             exact absurd H (by simp)
           ·rw [if_neg c22] at H
            exact absurd H (by simp)
          ·rw [if_neg c21] at H
           exact absurd H (by simp)
         ·rw [if_neg c19] at H
          exact absurd H (by simp)
        ·rw [if_neg c18] at H
         exact absurd H (by simp)
      ·rw [if_neg c16] at H
       have c16b0 : decide (x31_2 < (l1.length : Int)) = false := decide_eq_false c16; clear c16; replace H := Option.bind_eq_some_iff.mp H; obtain ⟨t139, A280, H⟩ := H; replace H : (if t139 = true then (some (x6_2, true)) else (some (([] : List Int), false))) = some (r1, r2) := H
       have A28 := Aside0.mk A280; clear A280
       by_cases c29 : t139 = true
       ·subst c29
        have H1 : (some (x6_2, true)) = some (r1, r2) := by rw [if_pos rfl] at H; exact H
        clear H; have H := H1; clear H1
        simp only [Option.some.injEq, Prod.mk.injEq] at H
        obtain ⟨rfl, rfl⟩ := H; obtain ⟨Ao30, co30, eo30⟩ := Kd.R_slice HO_6.out; subst eo30
        go_wp2_with (first | (go_at_call 60; (with_reducible refine (impl_isRow.calls _ _ x6_2 10000 true _ ?side1 ?side2 A28.out).mono ?_); (case side1 => repeat (first | exact (Kd.R_reads' HO_6.out).2.2 | (with_reducible refine Kd.C_alloc ?_ _) | (with_reducible refine Kd.C_drewN ?_ _) | (with_reducible refine Kd.C_drew ?_))); (case side2 => exact (Kd.R_reads' HO_6.out).2.1); rintro e w31 ⟨rfl, hb⟩; have n0_ := Aside0.mk (Kd.R_below (kr_ HO_6.out) hb); have n1_ := Aside0.mk (below_step (bl_ HB.out) hb); clear HO_6; clear HB; have HO_6 := n0_; have HB := n1_; clear n0_ n1_; (try clear hb); (try clear hb2); (try clear hk); (try clear hi)))
        repeat (go_quiet (first | (go_at_call 60; (with_reducible refine (impl_isRow.calls _ _ x6_2 10000 true _ ?side1 ?side2 A28.out).mono ?_); (case side1 => repeat (first | exact (Kd.R_reads' HO_6.out).2.2 | (with_reducible refine Kd.C_alloc ?_ _) | (with_reducible refine Kd.C_drewN ?_ _) | (with_reducible refine Kd.C_drew ?_))); (case side2 => exact (Kd.R_reads' HO_6.out).2.1); rintro e w31 ⟨rfl, hb⟩; have n0_ := Aside0.mk (Kd.R_below (kr_ HO_6.out) hb); have n1_ := Aside0.mk (below_step (bl_ HB.out) hb); clear HO_6; clear HB; have HO_6 := n0_; have HB := n1_; clear n0_ n1_; (try clear hb); (try clear hb2); (try clear hk); (try clear hi))); try go_wp2_with (first | (go_at_call 60; (with_reducible refine (impl_isRow.calls _ _ x6_2 10000 true _ ?side1 ?side2 A28.out).mono ?_); (case side1 => repeat (first | exact (Kd.R_reads' HO_6.out).2.2 | (with_reducible refine Kd.C_alloc ?_ _) | (with_reducible refine Kd.C_drewN ?_ _) | (with_reducible refine Kd.C_drew ?_))); (case side2 => exact (Kd.R_reads' HO_6.out).2.1); rintro e w31 ⟨rfl, hb⟩; have n0_ := Aside0.mk (Kd.R_below (kr_ HO_6.out) hb); have n1_ := Aside0.mk (below_step (bl_ HB.out) hb); clear HO_6; clear HB; have HO_6 := n0_; have HB := n1_; clear n0_ n1_; (try clear hb); (try clear hb2); (try clear hk); (try clear hi))))
        go_ret2
        exact ⟨_, by first | rfl | (simp [errW_none, errW_some] <;> rfl) | (simp [*, errW_none, errW_some] <;> rfl), by (with_reducible repeat (first | apply Kd.R_alloc | apply Kd.R_drewN | apply Kd.R_drew)); exact HO_6.out, bl_ HB.out⟩
       ·replace c29 := Bool.eq_false_iff.mpr c29
        subst c29; have H1 : (some (([] : List Int), false)) = some (r1, r2) := by rw [if_neg (show ¬ (false = true) by decide)] at H; exact H
        clear H; have H := H1; clear H1
        simp only [Option.some.injEq, Prod.mk.injEq] at H
        obtain ⟨rfl, rfl⟩ := H; obtain ⟨Ao32, co32, eo32⟩ := Kd.R_slice HO_6.out; subst eo32
        go_wp2_with (first | (go_at_call 60; (with_reducible refine (impl_isRow.calls _ _ x6_2 10000 false _ ?side1 ?side2 A28.out).mono ?_); (case side1 => repeat (first | exact (Kd.R_reads' HO_6.out).2.2 | (with_reducible refine Kd.C_alloc ?_ _) | (with_reducible refine Kd.C_drewN ?_ _) | (with_reducible refine Kd.C_drew ?_))); (case side2 => exact (Kd.R_reads' HO_6.out).2.1); rintro e w33 ⟨rfl, hb⟩; have n0_ := Aside0.mk (Kd.R_below (kr_ HO_6.out) hb); have n1_ := Aside0.mk (below_step (bl_ HB.out) hb); clear HO_6; clear HB; have HO_6 := n0_; have HB := n1_; clear n0_ n1_; (try clear hb); (try clear hb2); (try clear hk); (try clear hi)))
        repeat (go_quiet (first | (go_at_call 60; (with_reducible refine (impl_isRow.calls _ _ x6_2 10000 false _ ?side1 ?side2 A28.out).mono ?_); (case side1 => repeat (first | exact (Kd.R_reads' HO_6.out).2.2 | (with_reducible refine Kd.C_alloc ?_ _) | (with_reducible refine Kd.C_drewN ?_ _) | (with_reducible refine Kd.C_drew ?_))); (case side2 => exact (Kd.R_reads' HO_6.out).2.1); rintro e w33 ⟨rfl, hb⟩; have n0_ := Aside0.mk (Kd.R_below (kr_ HO_6.out) hb); have n1_ := Aside0.mk (below_step (bl_ HB.out) hb); clear HO_6; clear HB; have HO_6 := n0_; have HB := n1_; clear n0_ n1_; (try clear hb); (try clear hb2); (try clear hk); (try clear hi))); try go_wp2_with (first | (go_at_call 60; (with_reducible refine (impl_isRow.calls _ _ x6_2 10000 false _ ?side1 ?side2 A28.out).mono ?_); (case side1 => repeat (first | exact (Kd.R_reads' HO_6.out).2.2 | (with_reducible refine Kd.C_alloc ?_ _) | (with_reducible refine Kd.C_drewN ?_ _) | (with_reducible refine Kd.C_drew ?_))); (case side2 => exact (Kd.R_reads' HO_6.out).2.1); rintro e w33 ⟨rfl, hb⟩; have n0_ := Aside0.mk (Kd.R_below (kr_ HO_6.out) hb); have n1_ := Aside0.mk (below_step (bl_ HB.out) hb); clear HO_6; clear HB; have HO_6 := n0_; have HB := n1_; clear n0_ n1_; (try clear hb); (try clear hb2); (try clear hk); (try clear hi))))
        go_ret2
        exact ⟨_, by first | rfl | (simp [errW_none, errW_some] <;> rfl) | (simp [*, errW_none, errW_some] <;> rfl), by first | exact Kd.R_nil _ _ _ _ _ | exact Kd.N_nil _ _ _ _ _ | exact Kd.V_nil _ _ _ _ _ | exact Kd.Q_nil _ _ _ _ _ | exact Kd.S_nil _ _ _ _ _, bl_ HB.out⟩
end Go.Proofs.Ytmpmmhmnjdkgcaa.PFnExactNextRow
