-- Written for this claim by a program of this session (wip/tools/xprint.py over the kit's printer, wip/tools/shrink.py).
import Derived.Test.YtmpmmhmnjdkgcabPFnExactClosesAtx0
namespace Go.Proofs.Ytmpmmhmnjdkgcab.PFnExactClosesAt
open Go.RowKit Go.Proofs.YtmpmmhmnjdkgcabW.PrintWords Go.Proofs.YtmpmmhmnjdkgcabW.PrintLast Go.Proofs.YtmpmmhmnjdkgcabW.PrintMore
attribute [local go_sem] max2_int min2_int max_two min_two max_three min_three max_four min_four   -- for this text's walks alone
set_option linter.unusedVariables false
set_option linter.unusedSimpArgs false
def impl_within.f (a0 : Int) (a1 : Int) (a2 : Int) : Option (Bool) := if a0 ≥ a1 then (some (decide (a0 ≤ a2))) else (some false)
set_option maxHeartbeats 8000000 in
set_option maxRecDepth 100000 in
theorem impl_within.calls (a0 : Int) (a1 : Int) (a2 : Int) (r : Bool) (w : World) (h : impl_within.f a0 a1 a2 = some r) :
  Calls Try.prog 59 #[.int .i64 a0, .int .i64 a1, .int .i64 a2] w fun e w' => e = .returned (.bool r) ∧ Drawn0 w w' := by
 have H : (if a0 ≥ a1 then (some (decide (a0 ≤ a2))) else (some false)) = some r := h
 clear h
 by_cases c4 : a0 ≥ a1
 ·rw [if_pos c4] at H
  have c4b0 : decide (a1 ≤ a0) = true := decide_eq_true c4; clear c4; obtain rfl := Option.some.inj H
  go_enter Try.func59, Try.ntmps59
  go_wp2
  go_ret
  exact ⟨fs_, dr_⟩
 ·rw [if_neg c4] at H
  have c4b0 : decide (a1 ≤ a0) = false := decide_eq_false c4; clear c4; obtain rfl := Option.some.inj H
  go_enter Try.func59, Try.ntmps59
  go_wp2
  go_ret
  exact ⟨fs_, dr_⟩
def impl_isPolygon.f (a0 : Int) : Option (Bool) := (impl_within.f a0 3 12).bind fun t137 => (some t137)
set_option maxHeartbeats 8000000 in
set_option maxRecDepth 100000 in
theorem impl_isPolygon.calls (a0 : Int) (r : Bool) (w : World) (h : impl_isPolygon.f a0 = some r) :
  Calls Try.prog 50 #[.int .i64 a0] w fun e w' => e = .returned (.bool r) ∧ Drawn0 w w' := by
 have H : ((impl_within.f a0 3 12).bind fun t137 => (some t137)) = some r := h
 clear h; replace H := Option.bind_eq_some_iff.mp H; obtain ⟨t137, A20, H⟩ := H; replace H : (some t137) = some r := H; have A2 := Aside0.mk A20; clear A20; obtain rfl := Option.some.inj H
 go_enter Try.func50, Try.ntmps50
 go_wp2_with (first | ((with_reducible refine gate_callee (f := 59) rfl ?_); refine goesL_ (some 4) rfl rfl Try.func59 (by kernel_rfl) rfl #[.int .i64 a0, .int .i64 3, .int .i64 12] rfl (by (try simp only [List.map_toArray, List.map_cons, List.map_nil]); first | done | rfl | (simp only [List.length_drop, List.length_take]; rfl)) ?_; (with_reducible refine (impl_within.calls a0 3 12 t137 _ A2.out).mono ?_); rintro e w' ⟨rfl, ⟨nd, rfl⟩⟩; refine ⟨_, rfl, ?_⟩))
 go_ret
 exact ⟨fs_, dr_⟩
def impl_isRow.p (m x : Int) : Bool := decide (1 ≤ x ∧ x ≤ m)
def impl_isRow.f (l0 : List Int) (a1 : Int) : Option Bool := some (decide (3 ≤ (l0.length : Int) ∧ (l0.length : Int) ≤ 12) && l0.all (impl_isRow.p a1))
theorem impl_isRow.wi (a b c : Int) : impl_within.f a b c = some (decide (b ≤ a ∧ a ≤ c)) := by
 unfold impl_within.f
 split <;> simp <;> omega
theorem impl_isRow.po (n : Int) : impl_isPolygon.f n = some (decide (3 ≤ n ∧ n ≤ 12)) := by
 unfold impl_isPolygon.f
 rw [impl_isRow.wi]; rfl
set_option maxHeartbeats 4000000 in
set_option maxRecDepth 100000 in
theorem impl_isRow.clo (g : Nat) (m x : Int) (w : World) (hg : w.heap[g]? = some (.cells #[.int .i64 m] 3 (0, 0))) :
  Calls Try.prog 90 #[.int .i64 x, .pointer (some ⟨g, 0, none⟩)] w fun e w' => e = .returned (.bool (!(impl_isRow.p m x))) ∧ Below w.heap.size w w' := by
 have hc0 : w.cell? ⟨g, 0, none⟩ = some (.int .i64 m) := (blk_cell hg 0).trans rfl; clear hg
 go_enter Try.func90, Try.ntmps90
 go_wp2_with (go_at_call 59; (with_reducible refine (impl_within.calls x 1 m _ _ (impl_isRow.wi x 1 m)).mono ?_); rintro e w10 ⟨rfl, hd_⟩; have HB10 := Aside0.mk (Lw.below_of hd_); clear hd_)
 go_ret
 exact ⟨by unfold impl_isRow.p; by_cases h1 : 1 ≤ x <;> by_cases h2 : x ≤ m <;> simp [h1, h2], HB10.out⟩
set_option maxHeartbeats 4000000 in
set_option maxRecDepth 100000 in
theorem impl_isRow.idx (A0 : Option Addr) (c0 : Nat) (l0 : List Int) (g : Nat) (m : Int) (w : World) (hr0 : Kd.C (Kd.int .i64) w A0 l0.length l0) (hc0 : l0.length ≤ c0) (hl : l0.length ≤ 1048576) (hg : w.heap[g]? = some (.cells #[.int .i64 m] 3 (0, 0))) :
  Calls Try.prog 97 #[.slice A0 l0.length c0, .func (.func 90) #[] #[.pointer (some ⟨g, 0, none⟩)]] w fun e w' => (∃ i : Int, e = .returned (.int .i64 i) ∧ (0 ≤ i ↔ l0.all (impl_isRow.p m) = false)) ∧ Below w.heap.size w w' := by
 have HR0 := Aside0.mk hr0; have HC0 := Aside0.mk hc0; have HG := Aside0.mk hg; clear hr0 hc0 hg; have HB := Aside0.mk (Below.refl w.heap.size w)
 have HL : ∀ x : Int, 0 ≤ x → x < (l0.length : Int) → (l0.take (x.toNat + 1)).all (impl_isRow.p m) = ((l0.take x.toNat).all (impl_isRow.p m) && impl_isRow.p m (rd l0 x)) := by
  intro x hx0 hx
  have h1 : l0[x.toNat]? = some (rd l0 x) := by
   have : x.toNat < l0.length := by omega
   simp [rd, this]
  rw [List.take_add_one, h1, List.all_append]
  simp
 go_enter Try.func97, Try.ntmps97
 go_wp2
 go_loopg [8] (l0.length + 1) (fun kq v8 w' => ∃ (x : Int), v8 = .int .i64 x ∧ Aside0 (0 ≤ x ∧ (kq : Int) + x = l0.length + 1) ∧ Aside0 ((l0.take x.toNat).all (impl_isRow.p m) = true) ∧ Aside0 (Below w.heap.size w w'))
 case atStart => exact ⟨0, rfl, ⟨by omega⟩, ⟨by simp⟩, HB⟩
 case round =>
  clear HB; obtain ⟨x, rfl, HK, HN, HB⟩ := hrel
  by_cases c4 : x < (l0.length : Int)
  ·have c4b0 : decide (x < (l0.length : Int)) = true := decide_eq_true c4
   have p1 : 0 ≤ x := HK.out.1; obtain ⟨ad, e1, hx0⟩ := Kd.at_int HR0.out x p1 c4
   cases e1
   replace hx0 := (HB.out.cell (World.block_lt_of_cell? w _ hx0)).trans hx0; have h3 := HL x p1 c4; have h4 : wrap64 (x + 1) = x + 1 := by simp only [wrap64]; omega
   replace p1 := eq_true p1; have q1 := eq_true c4
   cases hP : impl_isRow.p m (rd l0 x) with
   | false =>
    go_wp2_with (go_at_call 90; refine (impl_isRow.clo g m _ _ (blk_below HG.out HB.out)).mono ?_; rw [hP]; rintro e w10 ⟨rfl, hb2⟩; have HB10 := Aside0.mk (below_step HB.out hb2))
    go_ret
    exact ⟨⟨_, rfl, ⟨fun _ => by rw [← List.take_append_drop (x.toNat + 1) l0, List.all_append, h3, hP]; simp, fun _ => HK.out.1⟩⟩, HB10.out⟩
   | true =>
    go_wp2_with (go_at_call 90; refine (impl_isRow.clo g m _ _ (blk_below HG.out HB.out)).mono ?_; rw [hP]; rintro e w10 ⟨rfl, hb2⟩; have HB10 := Aside0.mk (below_step HB.out hb2))
    go_roundg (gk - 1)
    case measure => have := HK.out; omega
    case rel => exact ⟨x + 1, by first | rfl | (simp only [i64_w, h4]; done) | (simp [h4]; done), ⟨by have := HK.out; omega⟩, ⟨by rw [show (x + 1).toNat = x.toNat + 1 by have := HK.out; omega, h3, HN.out, hP]; rfl⟩, HB10⟩
  ·have c4b0 : decide (x < (l0.length : Int)) = false := decide_eq_false c4
   go_wp2
   go_ret
   have h2 := HN.out; rw [List.take_of_length_le (by omega)] at h2
   exact ⟨⟨-1, rfl, Iff.intro (fun h => absurd h (by decide)) (fun h => by first | (rw [h2] at h; cases h; done) | (obtain ⟨y, hy, hy2⟩ := h; have h5 := List.all_eq_true.1 h2 y hy; rw [hy2] at h5; cases h5))⟩, HB.out⟩
set_option maxHeartbeats 4000000 in
set_option maxRecDepth 100000 in
theorem impl_isRow.con (A0 : Option Addr) (c0 : Nat) (l0 : List Int) (g : Nat) (m : Int) (w : World) (hr0 : Kd.C (Kd.int .i64) w A0 l0.length l0) (hc0 : l0.length ≤ c0) (hl : l0.length ≤ 1048576) (hg : w.heap[g]? = some (.cells #[.int .i64 m] 3 (0, 0))) :
  Calls Try.prog 76 #[.slice A0 l0.length c0, .func (.func 90) #[] #[.pointer (some ⟨g, 0, none⟩)]] w fun e w' => e = .returned (.bool (!(l0.all (impl_isRow.p m)))) ∧ Below w.heap.size w w' := by
 go_enter Try.func76, Try.ntmps76
 go_wp2_with (go_at_call 97; refine (impl_isRow.idx A0 c0 l0 g m _ hr0 hc0 hl hg).mono ?_; rintro e w10 ⟨⟨i, rfl, hi0⟩, hb2⟩; have HI := Aside0.mk hi0; clear hi0; have HB10 := Aside0.mk hb2)
 go_ret
 have hi1 := HI.out; have h9 : decide (0 ≤ i) = !(l0.all (impl_isRow.p m)) := by rw [Bool.eq_iff_iff, decide_eq_true_iff, hi1]; cases l0.all (impl_isRow.p m) <;> simp
 exact ⟨by rw [← h9]; rfl, HB10.out⟩
set_option maxHeartbeats 4000000 in
set_option maxRecDepth 100000 in
theorem impl_isRow.calls (A0 : Option Addr) (c0 : Nat) (l0 : List Int) (a1 : Int) (r : Bool) (w : World) (hr0 : Kd.C (Kd.int .i64) w A0 l0.length l0) (hc0 : l0.length ≤ c0) (h : impl_isRow.f l0 a1 = some r) :
  Calls Try.prog 66 #[.slice A0 l0.length c0, .int .i64 a1] w fun e w' => e = .returned (.bool r) ∧ Below w.heap.size w w' := by
 obtain rfl := Option.some.inj h; clear h; have HR0 := Aside0.mk hr0; have HC0 := Aside0.mk hc0; clear hr0 hc0
 by_cases hp : 3 ≤ (l0.length : Int) ∧ (l0.length : Int) ≤ 12
 ·have HP := Aside0.mk ((impl_isRow.po (l0.length : Int)).trans (by rw [decide_eq_true hp]))
  have HL := Aside0.mk (show l0.length ≤ 1048576 by omega)
  rw [decide_eq_true hp, Bool.true_and]; clear hp
  go_enter Try.func66, Try.ntmps66
  go_wp2_with (first | ((with_reducible refine gate_dst (N := 3) rfl ?_); refine box_event ?hg (N := 3) ?hd (cs := #[.int .i64 a1]) (t := 3) ?hr ?_; (case hd => rfl); (case hg => rfl); (case hr => first | (go_simp; done) | (go_simp; rfl)); intro gb1 hgb w9 hbox hb; have HX1 := Aside0.mk hbox; have HB1 := Aside0.mk hb; clear hgb hbox hb) | (go_at_call 50; (with_reducible refine (impl_isPolygon.calls (l0.length : Int) true _ HP.out).mono ?_); rintro e w10 ⟨rfl, hd_⟩; have HB2 := Aside0.mk (below_step HB1.out (Lw.below_of hd_)); have HX2 := Aside0.mk (blk_below HX1.out (Lw.below_of hd_)); clear hd_) | (go_at_call 76; refine (impl_isRow.con A0 c0 l0 gb1 a1 _ (Kd.C_below HR0.out HB2.out) HC0.out HL.out HX2.out).mono ?_; rintro e w11 ⟨rfl, hb3⟩; have HB3 := Aside0.mk (below_step HB2.out hb3); clear hb3))
  go_ret
  exact ⟨by first | rfl | (rw [Bool.not_not]; done) | (simp; done), HB3.out⟩
 ·have HP := Aside0.mk ((impl_isRow.po (l0.length : Int)).trans (by rw [decide_eq_false hp]))
  rw [decide_eq_false hp, Bool.false_and]; clear hp
  go_enter Try.func66, Try.ntmps66
  go_wp2_with (first | ((with_reducible refine gate_dst (N := 3) rfl ?_); refine box_event ?hg (N := 3) ?hd (cs := #[.int .i64 a1]) (t := 3) ?hr ?_; (case hd => rfl); (case hg => rfl); (case hr => first | (go_simp; done) | (go_simp; rfl)); intro gb1 hgb w9 hbox hb; have HX1 := Aside0.mk hbox; have HB1 := Aside0.mk hb; clear hgb hbox hb) | (go_at_call 50; (with_reducible refine (impl_isPolygon.calls (l0.length : Int) false _ HP.out).mono ?_); rintro e w10 ⟨rfl, hd_⟩; have HB2 := Aside0.mk (below_step HB1.out (Lw.below_of hd_)); clear hd_))
  go_ret
  exact ⟨rfl, HB2.out⟩
def bits_Mul64.f (a0 : Int) (a1 : Int) : Option (Int × Int) := some (IntKind.u64.wrap ((IntKind.u64.wrap ((IntKind.u64.wrap ((a0 / 4294967296) * (a1 / 4294967296))) + ((IntKind.u64.wrap ((IntKind.u64.wrap ((a0 / 4294967296) * (Go.bits .and .u64 a1 4294967295))) + ((IntKind.u64.wrap ((Go.bits .and .u64 a0 4294967295) * (Go.bits .and .u64 a1 4294967295))) / 4294967296))) / 4294967296))) + ((IntKind.u64.wrap ((Go.bits .and .u64 (IntKind.u64.wrap ((IntKind.u64.wrap ((a0 / 4294967296) * (Go.bits .and .u64 a1 4294967295))) + ((IntKind.u64.wrap ((Go.bits .and .u64 a0 4294967295) * (Go.bits .and .u64 a1 4294967295))) / 4294967296))) 4294967295) + (IntKind.u64.wrap ((Go.bits .and .u64 a0 4294967295) * (a1 / 4294967296))))) / 4294967296)), IntKind.u64.wrap (a0 * a1))
set_option maxHeartbeats 8000000 in
set_option maxRecDepth 100000 in
theorem bits_Mul64.calls (a0 : Int) (a1 : Int) (r1 : Int) (r2 : Int) (w : World) (h : bits_Mul64.f a0 a1 = some (r1, r2)) :
  Calls Try.prog 102 #[.int .u64 a0, .int .u64 a1] w fun e w' => e = .returned (.tuple #[.int .u64 r1, .int .u64 r2]) ∧ Drawn0 w w' := by
 have H : (some (IntKind.u64.wrap ((IntKind.u64.wrap ((IntKind.u64.wrap ((a0 / 4294967296) * (a1 / 4294967296))) + ((IntKind.u64.wrap ((IntKind.u64.wrap ((a0 / 4294967296) * (Go.bits .and .u64 a1 4294967295))) + ((IntKind.u64.wrap ((Go.bits .and .u64 a0 4294967295) * (Go.bits .and .u64 a1 4294967295))) / 4294967296))) / 4294967296))) + ((IntKind.u64.wrap ((Go.bits .and .u64 (IntKind.u64.wrap ((IntKind.u64.wrap ((a0 / 4294967296) * (Go.bits .and .u64 a1 4294967295))) + ((IntKind.u64.wrap ((Go.bits .and .u64 a0 4294967295) * (Go.bits .and .u64 a1 4294967295))) / 4294967296))) 4294967295) + (IntKind.u64.wrap ((Go.bits .and .u64 a0 4294967295) * (a1 / 4294967296))))) / 4294967296)), IntKind.u64.wrap (a0 * a1))) = some (r1, r2) := h; clear h
 simp only [Option.some.injEq, Prod.mk.injEq] at H
 obtain ⟨rfl, rfl⟩ := H
 go_enter Try.func102, Try.ntmps102
 go_wp2
 go_ret2
 exact ⟨fs_, dr_⟩
def bits_Mul.f (a0 : Int) (a1 : Int) : Option (Int × Int) := (bits_Mul64.f a0 a1).bind fun bt138 => (some (bt138.1, bt138.2))
set_option maxHeartbeats 8000000 in
set_option maxRecDepth 100000 in
theorem bits_Mul.calls (a0 : Int) (a1 : Int) (r1 : Int) (r2 : Int) (w : World) (h : bits_Mul.f a0 a1 = some (r1, r2)) :
  Calls Try.prog 99 #[.int .u64 a0, .int .u64 a1] w fun e w' => e = .returned (.tuple #[.int .u64 r1, .int .u64 r2]) ∧ Drawn0 w w' := by
 have H : ((bits_Mul64.f a0 a1).bind fun bt138 => (some (bt138.1, bt138.2))) = some (r1, r2) := h
 clear h; replace H := Option.bind_eq_some_iff.mp H; obtain ⟨⟨t138, t139⟩, A30, H⟩ := H; replace H : (some (t138, t139)) = some (r1, r2) := H; have A3 := Aside0.mk A30; clear A30
 simp only [Option.some.injEq, Prod.mk.injEq] at H
 obtain ⟨rfl, rfl⟩ := H
 go_enter Try.func99, Try.ntmps99
 go_wp2_with (first | ((with_reducible refine gate_callee (f := 102) rfl ?_); refine goesL_ (some 25) rfl rfl Try.func102 (by kernel_rfl) rfl #[.int .u64 a0, .int .u64 a1] rfl (by (try simp only [List.map_toArray, List.map_cons, List.map_nil]); first | done | rfl | (simp only [List.length_drop, List.length_take]; rfl)) ?_; (with_reducible refine (bits_Mul64.calls a0 a1 t138 t139 _ A3.out).mono ?_); rintro e w' ⟨rfl, ⟨nd, rfl⟩⟩; refine ⟨_, rfl, ?_⟩))
 go_ret2
 exact ⟨fs_, dr_⟩
def slices_Repeat_int_int.f (l0 : List Int) (a1 : Int) : Option (List Int) := if l0.length = 1 ∧ 0 ≤ a1 ∧ a1 ≤ 12 then some (List.replicate a1.toNat (rd l0 0)) else none
def slices_Repeat_int_int.row (m n : Nat) (x : Int) : List Value := List.replicate n (.int .i64 x) ++ List.replicate (m - n) (.int .i64 0)
theorem slices_Repeat_int_int.spl (m n c : Nat) (x : Int) (h : n + c ≤ m) : splice (slices_Repeat_int_int.row m n x) n (List.replicate c (.int .i64 x)) = slices_Repeat_int_int.row m (n + c) x := by
 unfold splice slices_Repeat_int_int.row
 rw [List.length_replicate, List.take_append_of_le_length (by simp), List.take_of_length_le (by simp), List.drop_append, List.drop_of_length_le (by simp), List.nil_append, List.length_replicate, List.drop_replicate, ← List.append_assoc, ← List.replicate_append_replicate]
 congr 2
 omega
theorem slices_Repeat_int_int.fin {W : World} {g b m : Nat} {x : Int} (h : W.heap[g]? = some (.cells (slices_Repeat_int_int.row m m x).toArray 3 (0, 0))) (hm : m ≤ 12) (hb : b ≤ g := by exact Nat.le_refl _) : Kd.R (Kd.int .i64) 3 W b (fun _ => True) (.slice (some ⟨g, 0, none⟩) m m) (List.replicate ((m : Nat) : Int).toNat (rd [x] 0)) := by
 have e : (List.replicate ((m : Nat) : Int).toNat (rd [x] 0)) = List.replicate m x := by rw [Int.toNat_natCast]; rfl
 rw [e]; refine Kd.R_of_own ?_ (fun _ _ => trivial)
 have e2 : encs (Value.int .i64) (List.replicate m x) = slices_Repeat_int_int.row m m x := by simp [encs, slices_Repeat_int_int.row]
 rw [e2, List.length_replicate]; refine ⟨by simp [slices_Repeat_int_int.row], .inr ⟨g, m, _, rfl, hb, h, Nat.le_refl _, by unfold maxLen; omega, by simp [slices_Repeat_int_int.row], by simp [slices_Repeat_int_int.row]⟩⟩
theorem slices_Repeat_int_int.made (m : Nat) (x : Int) : (slices_Repeat_int_int.row m 0 x).toArray = madeCells #[.int .i64 0] m := by
 have hl : (madeCells #[Value.int .i64 0] m).toList = slices_Repeat_int_int.row m 0 x := by
  apply List.ext_getElem
  ·simp [slices_Repeat_int_int.row, madeCells]
  ·intro i h1 h2
   simp [slices_Repeat_int_int.row, madeCells, Nat.mod_one]
 rw [← hl]
theorem slices_Repeat_int_int.mul : ∀ i : Fin 13, bits_Mul.f 1 ((i : Nat) : Int) = some (0, ((i : Nat) : Int)) := by decide +kernel
set_option maxHeartbeats 4000000 in
set_option maxRecDepth 100000 in
theorem slices_Repeat_int_int.calls (A0 : Option Addr) (c0 : Nat) (l0 : List Int) (a1 : Int) (r : List Int) (w : World) (hr0 : Kd.C (Kd.int .i64) w A0 l0.length l0) (hc0 : l0.length ≤ c0) (h : slices_Repeat_int_int.f l0 a1 = some r) :
  Calls Try.prog 91 #[.slice A0 l0.length c0, .int .i64 a1] w fun e w' => ∃ v0_ : Value, e = .returned (v0_) ∧ Kd.R (Kd.int .i64) 3 w' w.heap.size (fun _ => True) v0_ r ∧ Below w.heap.size w w' := by
 unfold slices_Repeat_int_int.f at h
 by_cases hc : l0.length = 1 ∧ 0 ≤ a1 ∧ a1 ≤ 12
 case neg => rw [if_neg hc] at h; cases h
 rw [if_pos hc] at h
 obtain ⟨hl, h0, h1⟩ := hc; obtain rfl := Option.some.inj h; obtain ⟨m, rfl⟩ : ∃ m : Nat, a1 = m := ⟨a1.toNat, by omega⟩
 obtain ⟨x, rfl⟩ : ∃ x, l0 = [x] := by
  match l0, hl with
  | [x], _ => exact ⟨x, rfl⟩
 have hm : m ≤ 12 := by omega
 have hmul : Aside0 (bits_Mul.f 1 (m : Int) = some (0, (m : Int))) := ⟨slices_Repeat_int_int.mul ⟨m, Nat.lt_succ_of_le hm⟩⟩; clear h hl; obtain ⟨ad, rfl, hx⟩ := Kd.at_int hr0 0 (by omega) (by simp)
 have HX := Aside0.mk hx; clear hx hr0; clear h0 h1; have hmk := print_make_of (P := Try.prog) 22 3 (.int .i64 0) 8 Try.underlying22 info3 rfl (by decide) m (by omega)
 have hsz : (Try.prog.info? 3).map (·.size) = some 1 := by
  obtain ⟨i, hi, hz⟩ := Option.map_eq_some_iff.1 info3; rw [hi]
  simp only [Prod.mk.injEq] at hz
  simp [hz.2.1]
 have g1 : Aside0 (∀ nd : Nat, (World.alloc (w.drewN nd) (.cells (madeCells #[.int .i64 0] m) 3)).heap[w.heap.size]? = some (.cells (slices_Repeat_int_int.row m 0 x).toArray 3 (0, 0))) := ⟨fun nd => by rw [show (slices_Repeat_int_int.row m 0 x).toArray = madeCells #[.int .i64 0] m from slices_Repeat_int_int.made m x]; exact blk_new (w.drewN nd) _⟩
 have g2 : (List.replicate (min 1 m) (Value.int .i64 x)).length = Nat.min 1 m := List.length_replicate
 have g3 : Aside0 (∀ nd : Nat, ∀ j v, (List.replicate (min 1 m) (Value.int .i64 x))[j]? = some v → (World.alloc (w.drewN nd) (.cells (madeCells #[.int .i64 0] m) 3)).cell? (ad.add j) = some v) := ⟨fun nd j v hv => by
  have hj := (List.getElem?_eq_some_iff.1 hv).1; rw [List.length_replicate] at hj
  obtain rfl : j = 0 := by omega
  rw [List.getElem?_replicate, if_pos hj] at hv
  obtain rfl := Option.some.inj hv; exact pw_cell_below (below_alloc (pw_below_drewN (Below.refl _ _) _) _) HX.out⟩
 have g4 : 0 + (List.replicate (min 1 m) (Value.int .i64 x)).length ≤ (slices_Repeat_int_int.row m 0 x).length := by simp [slices_Repeat_int_int.row]; omega
 have g5 : ∀ v ∈ (List.replicate (min 1 m) (Value.int .i64 x)), v.oneCell' = true := by intro v hv; rw [List.eq_of_mem_replicate hv]; rfl
 go_enter Try.func91, Try.ntmps91
 go_wp2_with (first | (go_at_call 99; (with_reducible refine (bits_Mul.calls 1 m 0 m _ hmul.out).mono ?_); rintro e w' ⟨rfl, ⟨nd, rfl⟩⟩) | ((with_reducible refine gate_builtin (b := .copy) rfl ?_); (refine wpList_copy_splice rfl (.tmp 31) (.tmp 32) 22 22 rfl 3 Try.underlying22 hsz (some ⟨w.heap.size, 0, none⟩) (some ad) m m 1 c0 rfl rfl w.heap.size 0 (slices_Repeat_int_int.row m 0 x) 3 (g1.out _) (List.replicate (min 1 m) (.int .i64 x)) g2 (fun _ => ⟨rfl, ad, rfl, g3.out _⟩) g4 g5 w.heap.size w (below_alloc (pw_below_drewN (Below.refl _ _) _) _) (Nat.le_refl _) ?_; intro w2 hw2 hb2)) | fail)
 go_loopw [8] (fun v wr => ∃ n : Nat, min 1 m ≤ n ∧ n ≤ m ∧ v = .int .i64 n ∧ Hid (wr.heap[w.heap.size]? = some (.cells (slices_Repeat_int_int.row m n x).toArray 3 (0, 0))) ∧ Below w.heap.size w wr) (fun v _ => m - (intOf v).toNat)
 case atStart => exact ⟨min 1 m, Nat.le_refl _, by omega, by first | rfl | (rw [List.length_replicate]; rfl), Lib.hid (by have e := slices_Repeat_int_int.spl m 0 (min 1 m) x (by omega); rw [Nat.zero_add] at e; rw [← e]; exact hw2.out), hb2⟩
 case round =>
  clear g1 g2 g3 g4 g5 hw2 hb2 hmul hmk HX; obtain ⟨n, hn1, hn2, rfl, hrow, hbel⟩ := hrel
  by_cases hlt : n < m
  ·obtain ⟨cs, hcs⟩ : ∃ cs : List Value, cs = List.replicate (Nat.min n (m - n)) (Value.int .i64 x) := ⟨_, rfl⟩
   have HCS := Aside0.mk hcs; have q2 : cs.length = Nat.min n (m - n) := by rw [hcs, List.length_replicate]
   have q3 : Aside0 (∀ nd : Nat, ∀ j v, cs[j]? = some v → (wr.drewN nd).cell? ((⟨w.heap.size, 0, none⟩ : Addr).add j) = some v) := ⟨fun nd j v hv => by
    have hj := (List.getElem?_eq_some_iff.1 hv).1; rw [hcs, List.length_replicate, show Nat.min n (m - n) = min n (m - n) from rfl] at hj
    rw [hcs, List.getElem?_replicate, if_pos (by show j < min n (m - n); omega)] at hv
    obtain rfl := Option.some.inj hv; rw [add_plain, blk_cell (blk_drewN hrow.out nd)]
    simp [slices_Repeat_int_int.row, List.getElem?_append, show j < n by omega]⟩
   have q4 : n + cs.length ≤ (slices_Repeat_int_int.row m n x).length := by rw [q2, show Nat.min n (m - n) = min n (m - n) from rfl]; simp [slices_Repeat_int_int.row]; omega
   have q5 : ∀ v ∈ cs, v.oneCell' = true := by intro v hv; rw [hcs] at hv; rw [List.eq_of_mem_replicate hv]; rfl
   have q6 : Aside0 (∀ nd : Nat, (wr.drewN nd).heap[w.heap.size]? = some (.cells (slices_Repeat_int_int.row m n x).toArray 3 (0, 0))) := ⟨fun _ => hrow.out⟩
   have hne : m ≠ n := by omega
   clear hcs
   go_wp2_with fail
   go_region_law ((refine step_copy_splice rfl (.tmp 41) (.tmp 44) 22 22 rfl 3 Try.underlying22 hsz (some ⟨w.heap.size, n, none⟩) (some ⟨w.heap.size, 0, none⟩) (m - n) (m - n) n m (by simp [Act.eval, Act.put]) (by simp [Act.eval, Act.put]) w.heap.size n (slices_Repeat_int_int.row m n x) 3 (q6.out _) cs q2 (fun _ => ⟨rfl, _, rfl, q3.out _⟩) q4 q5 w.heap.size w (pw_below_drewN hbel _) (Nat.le_refl _) ?_; intro w3 hw3 hb3))
   go_simp
   have hw : IntKind.i64.wrap ((n : Int) + ((n.min (m - n) : Nat) : Int)) = ((n + min n (m - n) : Nat) : Int) := by
    rw [i64_w, show n.min (m - n) = min n (m - n) from rfl]
    unfold wrap64
    omega
   rw [hw]
   go_roundw
   case rel =>
    (repeat apply Exists.intro)
    exact ⟨⟨n + min n (m - n), by omega, by omega, rfl, Lib.hid (by rw [← slices_Repeat_int_int.spl m n (min n (m - n)) x (by omega)]; have e := hw3.out; rw [HCS.out] at e; exact e), hb3⟩, rfl⟩
   case measure => simp [intOf]; omega
  ·go_wp2
   obtain rfl : n = m := by omega
   go_ret
   exact ⟨_, rfl, slices_Repeat_int_int.fin hrow.out hm, hbel⟩
mutual
def impl_NextRow.j0 : Nat → List Int → List Int → Bool → Option (List Int × Bool)
 | 0, _, _, _ => none
 | k + 1, x0, x1, x25 => if x25 = true then (some (([] : List Int), false)) else (impl_NextRow.l0 k x0 x1 (([] : List Int)) (x1.length : Int) (x1.length : Int) 0)
def impl_NextRow.l0 : Nat → List Int → List Int → List Int → Int → Int → Int → Option (List Int × Bool)
 | 0, _, _, _, _, _, _ => none
 | k + 1, x0, x1, x6, x7, x30, x31 => if x31 < x30 then (if x7 = 0 then (none) else (if 0 ≤ x31 then (if x31 < (x1.length : Int) then (if 0 ≤ (Int.tmod (wrap64 (x31 + 1)) x7) then (if (Int.tmod (wrap64 (x31 + 1)) x7) < (x1.length : Int) then (if (Int.tmod (wrap64 (x31 + 1)) x7) < (x0.length : Int) then (if (rd x0 (Int.tmod (wrap64 (x31 + 1)) x7)) = 0 then (none) else (if (Int.tmod (wrap64 ((wrap64 ((rd x1 x31) * (rd x1 (Int.tmod (wrap64 (x31 + 1)) x7)))) - 1)) (rd x0 (Int.tmod (wrap64 (x31 + 1)) x7))) = 0 then (if x6.length < 17592186044416 then (impl_NextRow.l0 k x0 x1 (x6 ++ [wrap64 (Int.tdiv (wrap64 ((wrap64 ((rd x1 x31) * (rd x1 (Int.tmod (wrap64 (x31 + 1)) x7)))) - 1)) (rd x0 (Int.tmod (wrap64 (x31 + 1)) x7)))]) x7 x30 (wrap64 (x31 + 1))) else (none)) else (some (([] : List Int), false)))) else (none)) else (none)) else (none)) else (none)) else (none))) else ((impl_isRow.f x6 10000).bind fun t152 => (if t152 = true then (some (x6, true)) else (some (([] : List Int), false))))
end
def impl_NextRow.f (k : Nat) (l0 : List Int) (l1 : List Int) : Option (List Int × Bool) := (impl_isRow.f l0 10000).bind fun t140 => (if t140 = true then ((impl_isRow.f l1 10000).bind fun t141 => (if t141 = true then (impl_NextRow.j0 k l0 l1 ((l0.length : Int) != (l1.length : Int))) else (impl_NextRow.j0 k l0 l1 true))) else (impl_NextRow.j0 k l0 l1 true))
set_option maxHeartbeats 8000000 in
set_option maxRecDepth 100000 in
theorem impl_NextRow.calls (k : Nat) (A0 : Option Addr) (c0 : Nat) (l0 : List Int) (A1 : Option Addr) (c1 : Nat) (l1 : List Int) (r1 : List Int) (r2 : Bool) (w : World) (hr0 : Kd.C (Kd.int .i64) w A0 l0.length l0) (hc0 : l0.length ≤ c0) (hr1 : Kd.C (Kd.int .i64) w A1 l1.length l1) (hc1 : l1.length ≤ c1) (h : impl_NextRow.f k l0 l1 = some (r1, r2)) :
  Calls Try.prog 92 #[.slice A0 l0.length c0, .slice A1 l1.length c1] w fun e w' => ∃ v0_ : Value, e = .returned (.tuple #[v0_, .bool r2]) ∧ Kd.R (Kd.int .i64) 3 w' w.heap.size (fun _ => True) v0_ r1 ∧ Below w.heap.size w w' := by
 have HR0 := Aside0.mk hr0; have HC0 := Aside0.mk hc0; clear hr0 hc0; have HR1 := Aside0.mk hr1; have HC1 := Aside0.mk hc1; clear hr1 hc1; have HB := Aside0.mk (Below.refl w.heap.size w); have H : ((impl_isRow.f l0 10000).bind fun t140 => (if t140 = true then ((impl_isRow.f l1 10000).bind fun t141 => (if t141 = true then (impl_NextRow.j0 k l0 l1 ((l0.length : Int) != (l1.length : Int))) else (impl_NextRow.j0 k l0 l1 true))) else (impl_NextRow.j0 k l0 l1 true))) = some (r1, r2) := h
 clear h; have HC3 := Aside0.mk H; clear H
 go_enter Try.func92, Try.ntmps92
 go_upto_region 1 with (fail)
 repeat (go_quiet (fail); go_upto_region 1 with (fail))
 go_cut [25] (fun v25 wc => ∃ (kq : Nat) (x25_2 : Bool), v25 = .bool x25_2 ∧ Aside0 (impl_NextRow.j0 kq l0 l1 x25_2 = some (r1, r2)) ∧ Aside0 (kq ≤ k) ∧ Aside0 (Below w.heap.size w wc))
 case first =>
  have H := HC3.out; clear HC3; replace H := Option.bind_eq_some_iff.mp H; obtain ⟨t140, A40, H⟩ := H; replace H : (if t140 = true then ((impl_isRow.f l1 10000).bind fun t141 => (if t141 = true then (impl_NextRow.j0 k l0 l1 ((l0.length : Int) != (l1.length : Int))) else (impl_NextRow.j0 k l0 l1 true))) else (impl_NextRow.j0 k l0 l1 true)) = some (r1, r2) := H
  have A4 := Aside0.mk A40; clear A40
  by_cases c5 : t140 = true
  ·subst c5
   have H1 : ((impl_isRow.f l1 10000).bind fun t141 => (if t141 = true then (impl_NextRow.j0 k l0 l1 ((l0.length : Int) != (l1.length : Int))) else (impl_NextRow.j0 k l0 l1 true))) = some (r1, r2) := by rw [if_pos rfl] at H; exact H
   clear H; have H := H1; clear H1; replace H := Option.bind_eq_some_iff.mp H; obtain ⟨t141, A60, H⟩ := H; replace H : (if t141 = true then (impl_NextRow.j0 k l0 l1 ((l0.length : Int) != (l1.length : Int))) else (impl_NextRow.j0 k l0 l1 true)) = some (r1, r2) := H
   have A6 := Aside0.mk A60; clear A60
   by_cases c7 : t141 = true
   ·subst c7
    have H1 : (impl_NextRow.j0 k l0 l1 ((l0.length : Int) != (l1.length : Int))) = some (r1, r2) := by rw [if_pos rfl] at H; exact H
    clear H; have H := H1; clear H1; have H' := Aside0.mk H; clear H
    go_wp2_with (first | (go_at_call 66; (with_reducible refine (impl_isRow.calls _ _ l0 10000 true _ ?side1 ?side2 A4.out).mono ?_); (case side1 => repeat (first | exact (Kd.C_below HR0.out HB.out) | (with_reducible refine Kd.C_alloc ?_ _) | (with_reducible refine Kd.C_drewN ?_ _) | (with_reducible refine Kd.C_drew ?_))); (case side2 => exact HC0.out); rintro e w8 ⟨rfl, hb⟩; have n0_ := Aside0.mk (below_step (bl_ HB.out) hb); clear HB; have HB := n0_; clear n0_; (try clear hb); (try clear hb2); (try clear hk); (try clear hi)) | (go_at_call 66; (with_reducible refine (impl_isRow.calls _ _ l1 10000 true _ ?side1 ?side2 A6.out).mono ?_); (case side1 => repeat (first | exact (Kd.C_below HR1.out HB.out) | (with_reducible refine Kd.C_alloc ?_ _) | (with_reducible refine Kd.C_drewN ?_ _) | (with_reducible refine Kd.C_drew ?_))); (case side2 => exact HC1.out); rintro e w9 ⟨rfl, hb⟩; have n0_ := Aside0.mk (below_step (bl_ HB.out) hb); clear HB; have HB := n0_; clear n0_; (try clear hb); (try clear hb2); (try clear hk); (try clear hi)))
    repeat (go_quiet (first | (go_at_call 66; (with_reducible refine (impl_isRow.calls _ _ l0 10000 true _ ?side1 ?side2 A4.out).mono ?_); (case side1 => repeat (first | exact (Kd.C_below HR0.out HB.out) | (with_reducible refine Kd.C_alloc ?_ _) | (with_reducible refine Kd.C_drewN ?_ _) | (with_reducible refine Kd.C_drew ?_))); (case side2 => exact HC0.out); rintro e w8 ⟨rfl, hb⟩; have n0_ := Aside0.mk (below_step (bl_ HB.out) hb); clear HB; have HB := n0_; clear n0_; (try clear hb); (try clear hb2); (try clear hk); (try clear hi)) | (go_at_call 66; (with_reducible refine (impl_isRow.calls _ _ l1 10000 true _ ?side1 ?side2 A6.out).mono ?_); (case side1 => repeat (first | exact (Kd.C_below HR1.out HB.out) | (with_reducible refine Kd.C_alloc ?_ _) | (with_reducible refine Kd.C_drewN ?_ _) | (with_reducible refine Kd.C_drew ?_))); (case side2 => exact HC1.out); rintro e w9 ⟨rfl, hb⟩; have n0_ := Aside0.mk (below_step (bl_ HB.out) hb); clear HB; have HB := n0_; clear n0_; (try clear hb); (try clear hb2); (try clear hk); (try clear hi))); try go_wp2_with (first | (go_at_call 66; (with_reducible refine (impl_isRow.calls _ _ l0 10000 true _ ?side1 ?side2 A4.out).mono ?_); (case side1 => repeat (first | exact (Kd.C_below HR0.out HB.out) | (with_reducible refine Kd.C_alloc ?_ _) | (with_reducible refine Kd.C_drewN ?_ _) | (with_reducible refine Kd.C_drew ?_))); (case side2 => exact HC0.out); rintro e w8 ⟨rfl, hb⟩; have n0_ := Aside0.mk (below_step (bl_ HB.out) hb); clear HB; have HB := n0_; clear n0_; (try clear hb); (try clear hb2); (try clear hk); (try clear hi)) | (go_at_call 66; (with_reducible refine (impl_isRow.calls _ _ l1 10000 true _ ?side1 ?side2 A6.out).mono ?_); (case side1 => repeat (first | exact (Kd.C_below HR1.out HB.out) | (with_reducible refine Kd.C_alloc ?_ _) | (with_reducible refine Kd.C_drewN ?_ _) | (with_reducible refine Kd.C_drew ?_))); (case side2 => exact HC1.out); rintro e w9 ⟨rfl, hb⟩; have n0_ := Aside0.mk (below_step (bl_ HB.out) hb); clear HB; have HB := n0_; clear n0_; (try clear hb); (try clear hb2); (try clear hk); (try clear hi))))
    go_meet
    case rel => exact ⟨_, (((l0.length : Int) != (l1.length : Int))), (fs_), H', ⟨by first | omega | exact Nat.le_refl _⟩, ⟨bl_ HB.out⟩⟩
   ·replace c7 := Bool.eq_false_iff.mpr c7
    subst c7; have H1 : (impl_NextRow.j0 k l0 l1 true) = some (r1, r2) := by rw [if_neg (show ¬ (false = true) by decide)] at H; exact H
    clear H; have H := H1; clear H1; have H' := Aside0.mk H; clear H
    go_wp2_with (first | (go_at_call 66; (with_reducible refine (impl_isRow.calls _ _ l0 10000 true _ ?side1 ?side2 A4.out).mono ?_); (case side1 => repeat (first | exact (Kd.C_below HR0.out HB.out) | (with_reducible refine Kd.C_alloc ?_ _) | (with_reducible refine Kd.C_drewN ?_ _) | (with_reducible refine Kd.C_drew ?_))); (case side2 => exact HC0.out); rintro e w10 ⟨rfl, hb⟩; have n0_ := Aside0.mk (below_step (bl_ HB.out) hb); clear HB; have HB := n0_; clear n0_; (try clear hb); (try clear hb2); (try clear hk); (try clear hi)) | (go_at_call 66; (with_reducible refine (impl_isRow.calls _ _ l1 10000 false _ ?side1 ?side2 A6.out).mono ?_); (case side1 => repeat (first | exact (Kd.C_below HR1.out HB.out) | (with_reducible refine Kd.C_alloc ?_ _) | (with_reducible refine Kd.C_drewN ?_ _) | (with_reducible refine Kd.C_drew ?_))); (case side2 => exact HC1.out); rintro e w11 ⟨rfl, hb⟩; have n0_ := Aside0.mk (below_step (bl_ HB.out) hb); clear HB; have HB := n0_; clear n0_; (try clear hb); (try clear hb2); (try clear hk); (try clear hi)))
    repeat (go_quiet (first | (go_at_call 66; (with_reducible refine (impl_isRow.calls _ _ l0 10000 true _ ?side1 ?side2 A4.out).mono ?_); (case side1 => repeat (first | exact (Kd.C_below HR0.out HB.out) | (with_reducible refine Kd.C_alloc ?_ _) | (with_reducible refine Kd.C_drewN ?_ _) | (with_reducible refine Kd.C_drew ?_))); (case side2 => exact HC0.out); rintro e w10 ⟨rfl, hb⟩; have n0_ := Aside0.mk (below_step (bl_ HB.out) hb); clear HB; have HB := n0_; clear n0_; (try clear hb); (try clear hb2); (try clear hk); (try clear hi)) | (go_at_call 66; (with_reducible refine (impl_isRow.calls _ _ l1 10000 false _ ?side1 ?side2 A6.out).mono ?_); (case side1 => repeat (first | exact (Kd.C_below HR1.out HB.out) | (with_reducible refine Kd.C_alloc ?_ _) | (with_reducible refine Kd.C_drewN ?_ _) | (with_reducible refine Kd.C_drew ?_))); (case side2 => exact HC1.out); rintro e w11 ⟨rfl, hb⟩; have n0_ := Aside0.mk (below_step (bl_ HB.out) hb); clear HB; have HB := n0_; clear n0_; (try clear hb); (try clear hb2); (try clear hk); (try clear hi))); try go_wp2_with (first | (go_at_call 66; (with_reducible refine (impl_isRow.calls _ _ l0 10000 true _ ?side1 ?side2 A4.out).mono ?_); (case side1 => repeat (first | exact (Kd.C_below HR0.out HB.out) | (with_reducible refine Kd.C_alloc ?_ _) | (with_reducible refine Kd.C_drewN ?_ _) | (with_reducible refine Kd.C_drew ?_))); (case side2 => exact HC0.out); rintro e w10 ⟨rfl, hb⟩; have n0_ := Aside0.mk (below_step (bl_ HB.out) hb); clear HB; have HB := n0_; clear n0_; (try clear hb); (try clear hb2); (try clear hk); (try clear hi)) | (go_at_call 66; (with_reducible refine (impl_isRow.calls _ _ l1 10000 false _ ?side1 ?side2 A6.out).mono ?_); (case side1 => repeat (first | exact (Kd.C_below HR1.out HB.out) | (with_reducible refine Kd.C_alloc ?_ _) | (with_reducible refine Kd.C_drewN ?_ _) | (with_reducible refine Kd.C_drew ?_))); (case side2 => exact HC1.out); rintro e w11 ⟨rfl, hb⟩; have n0_ := Aside0.mk (below_step (bl_ HB.out) hb); clear HB; have HB := n0_; clear n0_; (try clear hb); (try clear hb2); (try clear hk); (try clear hi))))
    go_meet
    case rel => exact ⟨_, (true), (fs_), H', ⟨by first | omega | exact Nat.le_refl _⟩, ⟨bl_ HB.out⟩⟩
  ·replace c5 := Bool.eq_false_iff.mpr c5
   subst c5; have H1 : (impl_NextRow.j0 k l0 l1 true) = some (r1, r2) := by rw [if_neg (show ¬ (false = true) by decide)] at H; exact H
   clear H; have H := H1; clear H1; have H' := Aside0.mk H; clear H
   go_wp2_with (first | (go_at_call 66; (with_reducible refine (impl_isRow.calls _ _ l0 10000 false _ ?side1 ?side2 A4.out).mono ?_); (case side1 => repeat (first | exact (Kd.C_below HR0.out HB.out) | (with_reducible refine Kd.C_alloc ?_ _) | (with_reducible refine Kd.C_drewN ?_ _) | (with_reducible refine Kd.C_drew ?_))); (case side2 => exact HC0.out); rintro e w12 ⟨rfl, hb⟩; have n0_ := Aside0.mk (below_step (bl_ HB.out) hb); clear HB; have HB := n0_; clear n0_; (try clear hb); (try clear hb2); (try clear hk); (try clear hi)))
   repeat (go_quiet (first | (go_at_call 66; (with_reducible refine (impl_isRow.calls _ _ l0 10000 false _ ?side1 ?side2 A4.out).mono ?_); (case side1 => repeat (first | exact (Kd.C_below HR0.out HB.out) | (with_reducible refine Kd.C_alloc ?_ _) | (with_reducible refine Kd.C_drewN ?_ _) | (with_reducible refine Kd.C_drew ?_))); (case side2 => exact HC0.out); rintro e w12 ⟨rfl, hb⟩; have n0_ := Aside0.mk (below_step (bl_ HB.out) hb); clear HB; have HB := n0_; clear n0_; (try clear hb); (try clear hb2); (try clear hk); (try clear hi))); try go_wp2_with (first | (go_at_call 66; (with_reducible refine (impl_isRow.calls _ _ l0 10000 false _ ?side1 ?side2 A4.out).mono ?_); (case side1 => repeat (first | exact (Kd.C_below HR0.out HB.out) | (with_reducible refine Kd.C_alloc ?_ _) | (with_reducible refine Kd.C_drewN ?_ _) | (with_reducible refine Kd.C_drew ?_))); (case side2 => exact HC0.out); rintro e w12 ⟨rfl, hb⟩; have n0_ := Aside0.mk (below_step (bl_ HB.out) hb); clear HB; have HB := n0_; clear n0_; (try clear hb); (try clear hb2); (try clear hk); (try clear hi))))
   go_meet
   case rel => exact ⟨_, (true), (fs_), H', ⟨by first | omega | exact Nat.le_refl _⟩, ⟨bl_ HB.out⟩⟩
 case rest =>
  clear HC3
  try clear c1
  try clear p2
  try clear c5
  try clear c7
  try clear c9
  obtain ⟨kq, x25_2, rfl, HA, HJ2, HB⟩ := hcut
  cases kq with
  | zero => exact absurd HA.out (by simp [impl_NextRow.j0])
  | succ kj2 =>
   have H := HA.out; clear HA
   simp only [impl_NextRow.j0] at H
   by_cases c13 : x25_2 = true
   ·subst c13
    have H1 : (some (([] : List Int), false)) = some (r1, r2) := by rw [if_pos rfl] at H; exact H
    clear H; have H := H1; clear H1
    simp only [Option.some.injEq, Prod.mk.injEq] at H
    obtain ⟨rfl, rfl⟩ := H
    go_wp2
    repeat (go_quiet (fail); try go_wp2)
    go_ret2
    exact ⟨_, by first | rfl | (simp [errW_none, errW_some] <;> rfl) | (simp [*, errW_none, errW_some] <;> rfl), by first | exact Kd.R_nil _ _ _ _ _ | exact Kd.N_nil _ _ _ _ _ | exact Kd.V_nil _ _ _ _ _ | exact Kd.Q_nil _ _ _ _ _ | exact Kd.S_nil _ _ _ _ _, bl_ HB.out⟩
   ·replace c13 := Bool.eq_false_iff.mpr c13
    subst c13; have H1 : (impl_NextRow.l0 kj2 l0 l1 (([] : List Int)) (l1.length : Int) (l1.length : Int) 0) = some (r1, r2) := by rw [if_neg (show ¬ (false = true) by decide)] at H; exact H
    clear H; have H := H1; clear H1; obtain ⟨y142, hy142⟩ : ∃ y_ : List Int, y_ = (([] : List Int)) := ⟨_, rfl⟩; replace H : (impl_NextRow.l0 kj2 l0 l1 y142 (l1.length : Int) (l1.length : Int) 0) = some (r1, r2) := rh_ hy142 H; have Ny142 := Aside0.mk hy142; clear hy142; have H' := Aside0.mk H; clear H
    go_wp2_with (first | ((with_reducible refine gate_dst (N := 26) rfl ?_); (try (refine gate_guard (by rfl) ?_; dsimp only)); refine Kd.R_lit (Kd.int .i64) _ 3 ?hg (N := 26) ?hd (xs := ([] : List Int)) (inner := []) (ok := fun _ => True) (okp := fun _ => True) ?hr ?hp (fun _ hk => hk) trivial (Below.refl _ _) (Nat.le_refl _) (by simp) ?_; (case hd => rfl); (case hg => rfl); (case hr => first | (go_simp; done) | (go_simp; rfl)); (case hp => exact (Reps.none _ _)); intro v143 w14 ho15 hb hg_ hnew_; clear hg_ hnew_; (first | rw [← Ny142.out] at ho15 | (simp only [Int.reduceToNat] at ho15; rw [← Ny142.out] at ho15)); have n0_ := Aside0.mk (Kd.R_lower ho15 (below_size (bl_ HB.out))); have n1_ := Aside0.mk (below_step (bl_ HB.out) hb); clear HB; have HO144 := n0_; have HB := n1_; clear n0_ n1_; clear hb ho15))
    repeat (go_quiet (first | ((with_reducible refine gate_dst (N := 26) rfl ?_); (try (refine gate_guard (by rfl) ?_; dsimp only)); refine Kd.R_lit (Kd.int .i64) _ 3 ?hg (N := 26) ?hd (xs := ([] : List Int)) (inner := []) (ok := fun _ => True) (okp := fun _ => True) ?hr ?hp (fun _ hk => hk) trivial (Below.refl _ _) (Nat.le_refl _) (by simp) ?_; (case hd => rfl); (case hg => rfl); (case hr => first | (go_simp; done) | (go_simp; rfl)); (case hp => exact (Reps.none _ _)); intro v143 w14 ho15 hb hg_ hnew_; clear hg_ hnew_; (first | rw [← Ny142.out] at ho15 | (simp only [Int.reduceToNat] at ho15; rw [← Ny142.out] at ho15)); have n0_ := Aside0.mk (Kd.R_lower ho15 (below_size (bl_ HB.out))); have n1_ := Aside0.mk (below_step (bl_ HB.out) hb); clear HB; have HO144 := n0_; have HB := n1_; clear n0_ n1_; clear hb ho15)); try go_wp2_with (first | ((with_reducible refine gate_dst (N := 26) rfl ?_); (try (refine gate_guard (by rfl) ?_; dsimp only)); refine Kd.R_lit (Kd.int .i64) _ 3 ?hg (N := 26) ?hd (xs := ([] : List Int)) (inner := []) (ok := fun _ => True) (okp := fun _ => True) ?hr ?hp (fun _ hk => hk) trivial (Below.refl _ _) (Nat.le_refl _) (by simp) ?_; (case hd => rfl); (case hg => rfl); (case hr => first | (go_simp; done) | (go_simp; rfl)); (case hp => exact (Reps.none _ _)); intro v143 w14 ho15 hb hg_ hnew_; clear hg_ hnew_; (first | rw [← Ny142.out] at ho15 | (simp only [Int.reduceToNat] at ho15; rw [← Ny142.out] at ho15)); have n0_ := Aside0.mk (Kd.R_lower ho15 (below_size (bl_ HB.out))); have n1_ := Aside0.mk (below_step (bl_ HB.out) hb); clear HB; have HO144 := n0_; have HB := n1_; clear n0_ n1_; clear hb ho15)))
    go_loopg [6, 31] kj2 (fun kq v6 v31 w' => ∃ (x6_2 : List Int) (x31_2 : Int), v31 = .int .i64 x31_2 ∧ Aside0 (impl_NextRow.l0 kq l0 l1 x6_2 (l1.length : Int) (l1.length : Int) x31_2 = some (r1, r2)) ∧ Aside0 (kq ≤ kj2) ∧ Aside0 (Kd.R (Kd.int .i64) 3 w' w.heap.size (fun _ => True) v6 x6_2) ∧ Aside0 (Below w.heap.size w w'))
    case atStart => exact ⟨(y142), (0), (fs_), H', ⟨Nat.le_refl _⟩, ⟨kr_ HO144.out⟩, ⟨bl_ HB.out⟩⟩
    case round =>
     clear H'
     try clear c1
     try clear p2
     try clear c5
     try clear c7
     try clear c9
     try clear c13
     try clear p2
     obtain ⟨x6_2, x31_2, rfl, HA, HK2, HO_6, HB⟩ := hrel
     cases gk with
     | zero => exact absurd HA.out (by simp [impl_NextRow.l0])
     | succ k2 =>
      have H := HA.out; clear HA
      simp only [impl_NextRow.l0] at H
      by_cases c16 : x31_2 < (l1.length : Int)
      ·rw [if_pos c16] at H
       have c16b0 : decide (x31_2 < (l1.length : Int)) = true := decide_eq_true c16; clear c16
       by_cases c17 : (l1.length : Int) = 0
       ·rw [if_pos c17] at H
        exact absurd H (by simp)
       ·rw [if_neg c17] at H
        have c17b0 : ((l1.length : Int) == 0) = false := beq_eq_false_iff_ne.mpr c17; have c17b1 : ((l1.length : Int) != 0) = true := bne_iff_ne.mpr c17; have c17b2 : ¬ (l1 = []) := fun h_ => c17 (by rw [h_]; rfl)
        by_cases c18 : 0 ≤ x31_2
        ·rw [if_pos c18] at H
         have c18b0 : decide (0 ≤ x31_2) = true := decide_eq_true c18; clear c18
         by_cases c19 : x31_2 < (l1.length : Int)
         ·rw [if_pos c19] at H
          have c19b0 : decide (x31_2 < (l1.length : Int)) = true := decide_eq_true c19; clear c19; obtain ⟨ji20, hji20⟩ : ∃ j_ : Int, (Int.tmod (wrap64 (x31_2 + 1)) (l1.length : Int)) = j_ := ⟨_, rfl⟩; replace H : (if 0 ≤ (ji20) then (if (ji20) < (l1.length : Int) then (if (ji20) < (l0.length : Int) then (if (rd l0 (ji20)) = 0 then (none) else (if (Int.tmod (wrap64 ((wrap64 ((rd l1 x31_2) * (rd l1 (ji20)))) - 1)) (rd l0 (ji20))) = 0 then (if x6_2.length < 17592186044416 then (impl_NextRow.l0 k2 l0 l1 (x6_2 ++ [wrap64 (Int.tdiv (wrap64 ((wrap64 ((rd l1 x31_2) * (rd l1 (ji20)))) - 1)) (rd l0 (ji20)))]) (l1.length : Int) (l1.length : Int) (wrap64 (x31_2 + 1))) else (none)) else (some (([] : List Int), false)))) else (none)) else (none)) else (none)) = some (r1, r2) := by first | (rw [hji20] at H; exact H) | (simp only [hji20] at H ⊢; exact H)
          by_cases c21 : 0 ≤ (ji20)
          ·rw [if_pos c21] at H
           have c21b0 : decide (0 ≤ (ji20)) = true := decide_eq_true c21; clear c21
           by_cases c22 : (ji20) < (l1.length : Int)
           ·rw [if_pos c22] at H
            have c22b0 : decide ((ji20) < (l1.length : Int)) = true := decide_eq_true c22; clear c22
            by_cases c23 : (ji20) < (l0.length : Int)
            ·rw [if_pos c23] at H
             have c23b0 : decide ((ji20) < (l0.length : Int)) = true := decide_eq_true c23; clear c23
             by_cases c24 : (rd l0 (ji20)) = 0
             ·rw [if_pos c24] at H
              exact absurd H (by simp)
             ·rw [if_neg c24] at H
              have c24b0 : ((rd l0 (ji20)) == 0) = false := beq_eq_false_iff_ne.mpr c24; have c24b1 : ((rd l0 (ji20)) != 0) = true := bne_iff_ne.mpr c24
              by_cases c25 : (Int.tmod (wrap64 ((wrap64 ((rd l1 x31_2) * (rd l1 (ji20)))) - 1)) (rd l0 (ji20))) = 0
              ·rw [if_pos c25] at H
               have c25b0 : ((Int.tmod (wrap64 ((wrap64 ((rd l1 x31_2) * (rd l1 (ji20)))) - 1)) (rd l0 (ji20))) == 0) = true := beq_iff_eq.mpr c25; have c25b1 : ((Int.tmod (wrap64 ((wrap64 ((rd l1 x31_2) * (rd l1 (ji20)))) - 1)) (rd l0 (ji20))) != 0) = false := bne_eq_false_iff_eq.mpr c25; clear c25
               by_cases c26 : x6_2.length < 17592186044416
               ·rw [if_pos c26] at H
                have LMc26 := Aside0.mk c26; clear c26; obtain ⟨y149, hy149⟩ : ∃ y_ : List Int, y_ = (x6_2 ++ [wrap64 (Int.tdiv (wrap64 ((wrap64 ((rd l1 x31_2) * (rd l1 (ji20)))) - 1)) (rd l0 (ji20)))]) := ⟨_, rfl⟩; replace H : (impl_NextRow.l0 k2 l0 l1 y149 (l1.length : Int) (l1.length : Int) (wrap64 (x31_2 + 1))) = some (r1, r2) := rh_ hy149 H; have Ny149 := Aside0.mk hy149; clear hy149; have H' := Aside0.mk H; clear H; have p145 : 0 ≤ (x31_2 : Int) := of_decide_eq_true as_; have q145 : x31_2 < (l1.length : Int) := of_decide_eq_true as_; obtain ⟨ad145, e145, hx145_0⟩ := Kd.at_int HR1.out x31_2 p145 q145
                cases e145
                replace hx145_0 := (HB.out.cell (World.block_lt_of_cell? w _ hx145_0)).trans hx145_0; replace p145 := eq_true p145; replace q145 := eq_true q145; have p146 : 0 ≤ ((ji20) : Int) := of_decide_eq_true as_; have q146 : (ji20) < (l1.length : Int) := of_decide_eq_true as_; obtain ⟨ad146, e146, hx146_0⟩ := Kd.at_int HR1.out (ji20) p146 q146; obtain rfl : ad145 = ad146 := (by injection e146)
                replace hx146_0 := (HB.out.cell (World.block_lt_of_cell? w _ hx146_0)).trans hx146_0; replace p146 := eq_true p146; replace q146 := eq_true q146; have p147 : 0 ≤ ((ji20) : Int) := of_decide_eq_true as_; have q147 : (ji20) < (l0.length : Int) := of_decide_eq_true as_; obtain ⟨ad147, e147, hx147_0⟩ := Kd.at_int HR0.out (ji20) p147 q147
                cases e147
                replace hx147_0 := (HB.out.cell (World.block_lt_of_cell? w _ hx147_0)).trans hx147_0; replace p147 := eq_true p147; replace q147 := eq_true q147; have p148 : 0 ≤ ((ji20) : Int) := of_decide_eq_true as_; have q148 : (ji20) < (l0.length : Int) := of_decide_eq_true as_; obtain ⟨ad148, e148, hx148_0⟩ := Kd.at_int HR0.out (ji20) p148 q148; obtain rfl : ad147 = ad148 := (by injection e148)
                replace hx148_0 := (HB.out.cell (World.block_lt_of_cell? w _ hx148_0)).trans hx148_0; replace p148 := eq_true p148; replace q148 := eq_true q148
                go_wp2_with (first | ((with_reducible refine gate_builtin (b := .append) (xs := #[.tmp 55, .tmp 62]) rfl ?_); (try (refine gate_guard (by rfl) ?_; dsimp only)); at_builtin; refine Kd.R_append (Kd.int .i64) (w0 := w) w.heap.size rfl (.tmp 55) (.tmp 62) 22 3 (.int .i64 0) 8 rfl Try.underlying22 info3 rfl (by decide) (by omega) u6 x6_2 (wrap64 (Int.tdiv (wrap64 ((wrap64 ((rd l1 x31_2) * (rd l1 (ji20)))) - 1)) (rd l0 (ji20)))) [.int .i64 (wrap64 (Int.tdiv (wrap64 ((wrap64 ((rd l1 x31_2) * (rd l1 (ji20)))) - 1)) (rd l0 (ji20))))] (fun _ => True) (fun _ => False) rfl rfl ?aP (fun _ hk => hk.elim) ?aF ?aO ?aB ?aS ?aL ?_; (case aP => exact rfl); (case aB => exact (bl_ HB.out)); (case aF => exact (fun _ _ => trivial)); (case aO => exact (kr_ HO_6.out)); (case aS => exact (below_size (bl_ HB.out))); (case aL => have := LMc26.out; omega); intro v150 w27 ho hb hg hat; rw [← Ny149.out] at ho; have n0_ := Aside0.mk (hb); have n1_ := Aside0.mk (ho); clear HB; clear HO_6; have HB := n0_; have HO151 := n1_; clear n0_ n1_; clear ho hb hg hat))
                repeat (go_quiet (first | ((with_reducible refine gate_builtin (b := .append) (xs := #[.tmp 55, .tmp 62]) rfl ?_); (try (refine gate_guard (by rfl) ?_; dsimp only)); at_builtin; refine Kd.R_append (Kd.int .i64) (w0 := w) w.heap.size rfl (.tmp 55) (.tmp 62) 22 3 (.int .i64 0) 8 rfl Try.underlying22 info3 rfl (by decide) (by omega) u6 x6_2 (wrap64 (Int.tdiv (wrap64 ((wrap64 ((rd l1 x31_2) * (rd l1 (ji20)))) - 1)) (rd l0 (ji20)))) [.int .i64 (wrap64 (Int.tdiv (wrap64 ((wrap64 ((rd l1 x31_2) * (rd l1 (ji20)))) - 1)) (rd l0 (ji20))))] (fun _ => True) (fun _ => False) rfl rfl ?aP (fun _ hk => hk.elim) ?aF ?aO ?aB ?aS ?aL ?_; (case aP => exact rfl); (case aB => exact (bl_ HB.out)); (case aF => exact (fun _ _ => trivial)); (case aO => exact (kr_ HO_6.out)); (case aS => exact (below_size (bl_ HB.out))); (case aL => have := LMc26.out; omega); intro v150 w27 ho hb hg hat; rw [← Ny149.out] at ho; have n0_ := Aside0.mk (hb); have n1_ := Aside0.mk (ho); clear HB; clear HO_6; have HB := n0_; have HO151 := n1_; clear n0_ n1_; clear ho hb hg hat)); try go_wp2_with (first | ((with_reducible refine gate_builtin (b := .append) (xs := #[.tmp 55, .tmp 62]) rfl ?_); (try (refine gate_guard (by rfl) ?_; dsimp only)); at_builtin; refine Kd.R_append (Kd.int .i64) (w0 := w) w.heap.size rfl (.tmp 55) (.tmp 62) 22 3 (.int .i64 0) 8 rfl Try.underlying22 info3 rfl (by decide) (by omega) u6 x6_2 (wrap64 (Int.tdiv (wrap64 ((wrap64 ((rd l1 x31_2) * (rd l1 (ji20)))) - 1)) (rd l0 (ji20)))) [.int .i64 (wrap64 (Int.tdiv (wrap64 ((wrap64 ((rd l1 x31_2) * (rd l1 (ji20)))) - 1)) (rd l0 (ji20))))] (fun _ => True) (fun _ => False) rfl rfl ?aP (fun _ hk => hk.elim) ?aF ?aO ?aB ?aS ?aL ?_; (case aP => exact rfl); (case aB => exact (bl_ HB.out)); (case aF => exact (fun _ _ => trivial)); (case aO => exact (kr_ HO_6.out)); (case aS => exact (below_size (bl_ HB.out))); (case aL => have := LMc26.out; omega); intro v150 w27 ho hb hg hat; rw [← Ny149.out] at ho; have n0_ := Aside0.mk (hb); have n1_ := Aside0.mk (ho); clear HB; clear HO_6; have HB := n0_; have HO151 := n1_; clear n0_ n1_; clear ho hb hg hat)))
                go_roundg k2
                case measure => have := HJ2.out; have := HK2.out; omega
                case rel => exact ⟨(y149), (wrap64 (x31_2 + 1)), (fs_), H', ⟨by have := HJ2.out; have := HK2.out; omega⟩, ⟨kr_ HO151.out⟩, ⟨bl_ HB.out⟩⟩
               ·rw [if_neg c26] at H
                exact absurd H (by simp)
              ·rw [if_neg c25] at H
               have c25b0 : ((Int.tmod (wrap64 ((wrap64 ((rd l1 x31_2) * (rd l1 (ji20)))) - 1)) (rd l0 (ji20))) == 0) = false := beq_eq_false_iff_ne.mpr c25; have c25b1 : ((Int.tmod (wrap64 ((wrap64 ((rd l1 x31_2) * (rd l1 (ji20)))) - 1)) (rd l0 (ji20))) != 0) = true := bne_iff_ne.mpr c25
               simp only [Option.some.injEq, Prod.mk.injEq] at H
               obtain ⟨rfl, rfl⟩ := H; have p145 : 0 ≤ (x31_2 : Int) := of_decide_eq_true as_; have q145 : x31_2 < (l1.length : Int) := of_decide_eq_true as_; obtain ⟨ad145, e145, hx145_0⟩ := Kd.at_int HR1.out x31_2 p145 q145
               cases e145
               replace hx145_0 := (HB.out.cell (World.block_lt_of_cell? w _ hx145_0)).trans hx145_0; replace p145 := eq_true p145; replace q145 := eq_true q145; have p146 : 0 ≤ ((ji20) : Int) := of_decide_eq_true as_; have q146 : (ji20) < (l1.length : Int) := of_decide_eq_true as_; obtain ⟨ad146, e146, hx146_0⟩ := Kd.at_int HR1.out (ji20) p146 q146; obtain rfl : ad145 = ad146 := (by injection e146)
               replace hx146_0 := (HB.out.cell (World.block_lt_of_cell? w _ hx146_0)).trans hx146_0; replace p146 := eq_true p146; replace q146 := eq_true q146; have p147 : 0 ≤ ((ji20) : Int) := of_decide_eq_true as_; have q147 : (ji20) < (l0.length : Int) := of_decide_eq_true as_; obtain ⟨ad147, e147, hx147_0⟩ := Kd.at_int HR0.out (ji20) p147 q147
               cases e147
               replace hx147_0 := (HB.out.cell (World.block_lt_of_cell? w _ hx147_0)).trans hx147_0; replace p147 := eq_true p147; replace q147 := eq_true q147
               go_wp2
               repeat (go_quiet (fail); try go_wp2)
               go_ret2
               exact ⟨_, by first | rfl | (simp [errW_none, errW_some] <;> rfl) | (simp only [← hji20]; first | rfl | (simp [errW_none, errW_some] <;> rfl)) | (simp [*, errW_none, errW_some] <;> rfl), by first | exact Kd.R_nil _ _ _ _ _ | exact Kd.N_nil _ _ _ _ _ | exact Kd.V_nil _ _ _ _ _ | exact Kd.Q_nil _ _ _ _ _ | exact Kd.S_nil _ _ _ _ _, bl_ HB.out⟩
            ·rw [if_neg c23] at H
             exact absurd H (by simp)
           ·rw [if_neg c22] at H
            exact absurd H (by simp)
          ·rw [if_neg c21] at H
           exact absurd H (by simp)
         ·rw [if_neg c19] at H
          exact absurd H (by simp)
        ·rw [if_neg c18] at H
         exact absurd H (by simp)
      ·rw [if_neg c16] at H
       have c16b0 : decide (x31_2 < (l1.length : Int)) = false := decide_eq_false c16; clear c16; replace H := Option.bind_eq_some_iff.mp H; obtain ⟨t152, A280, H⟩ := H; replace H : (if t152 = true then (some (x6_2, true)) else (some (([] : List Int), false))) = some (r1, r2) := H
       have A28 := Aside0.mk A280; clear A280
       by_cases c29 : t152 = true
       ·subst c29
        have H1 : (some (x6_2, true)) = some (r1, r2) := by rw [if_pos rfl] at H; exact H
        clear H; have H := H1; clear H1
        simp only [Option.some.injEq, Prod.mk.injEq] at H
        obtain ⟨rfl, rfl⟩ := H; obtain ⟨Ao30, co30, eo30⟩ := Kd.R_slice HO_6.out; subst eo30
        go_wp2_with (first | (go_at_call 66; (with_reducible refine (impl_isRow.calls _ _ x6_2 10000 true _ ?side1 ?side2 A28.out).mono ?_); (case side1 => repeat (first | exact (Kd.R_reads' HO_6.out).2.2 | (with_reducible refine Kd.C_alloc ?_ _) | (with_reducible refine Kd.C_drewN ?_ _) | (with_reducible refine Kd.C_drew ?_))); (case side2 => exact (Kd.R_reads' HO_6.out).2.1); rintro e w31 ⟨rfl, hb⟩; have n0_ := Aside0.mk (Kd.R_below (kr_ HO_6.out) hb); have n1_ := Aside0.mk (below_step (bl_ HB.out) hb); clear HO_6; clear HB; have HO_6 := n0_; have HB := n1_; clear n0_ n1_; (try clear hb); (try clear hb2); (try clear hk); (try clear hi)))
        repeat (go_quiet (first | (go_at_call 66; (with_reducible refine (impl_isRow.calls _ _ x6_2 10000 true _ ?side1 ?side2 A28.out).mono ?_); (case side1 => repeat (first | exact (Kd.R_reads' HO_6.out).2.2 | (with_reducible refine Kd.C_alloc ?_ _) | (with_reducible refine Kd.C_drewN ?_ _) | (with_reducible refine Kd.C_drew ?_))); (case side2 => exact (Kd.R_reads' HO_6.out).2.1); rintro e w31 ⟨rfl, hb⟩; have n0_ := Aside0.mk (Kd.R_below (kr_ HO_6.out) hb); have n1_ := Aside0.mk (below_step (bl_ HB.out) hb); clear HO_6; clear HB; have HO_6 := n0_; have HB := n1_; clear n0_ n1_; (try clear hb); (try clear hb2); (try clear hk); (try clear hi))); try go_wp2_with (first | (go_at_call 66; (with_reducible refine (impl_isRow.calls _ _ x6_2 10000 true _ ?side1 ?side2 A28.out).mono ?_); (case side1 => repeat (first | exact (Kd.R_reads' HO_6.out).2.2 | (with_reducible refine Kd.C_alloc ?_ _) | (with_reducible refine Kd.C_drewN ?_ _) | (with_reducible refine Kd.C_drew ?_))); (case side2 => exact (Kd.R_reads' HO_6.out).2.1); rintro e w31 ⟨rfl, hb⟩; have n0_ := Aside0.mk (Kd.R_below (kr_ HO_6.out) hb); have n1_ := Aside0.mk (below_step (bl_ HB.out) hb); clear HO_6; clear HB; have HO_6 := n0_; have HB := n1_; clear n0_ n1_; (try clear hb); (try clear hb2); (try clear hk); (try clear hi))))
        go_ret2
        exact ⟨_, by first | rfl | (simp [errW_none, errW_some] <;> rfl) | (simp [*, errW_none, errW_some] <;> rfl), by (with_reducible repeat (first | apply Kd.R_alloc | apply Kd.R_drewN | apply Kd.R_drew)); exact HO_6.out, bl_ HB.out⟩
       ·replace c29 := Bool.eq_false_iff.mpr c29
        subst c29; have H1 : (some (([] : List Int), false)) = some (r1, r2) := by rw [if_neg (show ¬ (false = true) by decide)] at H; exact H
        clear H; have H := H1; clear H1
        simp only [Option.some.injEq, Prod.mk.injEq] at H
        obtain ⟨rfl, rfl⟩ := H; obtain ⟨Ao32, co32, eo32⟩ := Kd.R_slice HO_6.out; subst eo32
        go_wp2_with (first | (go_at_call 66; (with_reducible refine (impl_isRow.calls _ _ x6_2 10000 false _ ?side1 ?side2 A28.out).mono ?_); (case side1 => repeat (first | exact (Kd.R_reads' HO_6.out).2.2 | (with_reducible refine Kd.C_alloc ?_ _) | (with_reducible refine Kd.C_drewN ?_ _) | (with_reducible refine Kd.C_drew ?_))); (case side2 => exact (Kd.R_reads' HO_6.out).2.1); rintro e w33 ⟨rfl, hb⟩; have n0_ := Aside0.mk (Kd.R_below (kr_ HO_6.out) hb); have n1_ := Aside0.mk (below_step (bl_ HB.out) hb); clear HO_6; clear HB; have HO_6 := n0_; have HB := n1_; clear n0_ n1_; (try clear hb); (try clear hb2); (try clear hk); (try clear hi)))
        repeat (go_quiet (first | (go_at_call 66; (with_reducible refine (impl_isRow.calls _ _ x6_2 10000 false _ ?side1 ?side2 A28.out).mono ?_); (case side1 => repeat (first | exact (Kd.R_reads' HO_6.out).2.2 | (with_reducible refine Kd.C_alloc ?_ _) | (with_reducible refine Kd.C_drewN ?_ _) | (with_reducible refine Kd.C_drew ?_))); (case side2 => exact (Kd.R_reads' HO_6.out).2.1); rintro e w33 ⟨rfl, hb⟩; have n0_ := Aside0.mk (Kd.R_below (kr_ HO_6.out) hb); have n1_ := Aside0.mk (below_step (bl_ HB.out) hb); clear HO_6; clear HB; have HO_6 := n0_; have HB := n1_; clear n0_ n1_; (try clear hb); (try clear hb2); (try clear hk); (try clear hi))); try go_wp2_with (first | (go_at_call 66; (with_reducible refine (impl_isRow.calls _ _ x6_2 10000 false _ ?side1 ?side2 A28.out).mono ?_); (case side1 => repeat (first | exact (Kd.R_reads' HO_6.out).2.2 | (with_reducible refine Kd.C_alloc ?_ _) | (with_reducible refine Kd.C_drewN ?_ _) | (with_reducible refine Kd.C_drew ?_))); (case side2 => exact (Kd.R_reads' HO_6.out).2.1); rintro e w33 ⟨rfl, hb⟩; have n0_ := Aside0.mk (Kd.R_below (kr_ HO_6.out) hb); have n1_ := Aside0.mk (below_step (bl_ HB.out) hb); clear HO_6; clear HB; have HO_6 := n0_; have HB := n1_; clear n0_ n1_; (try clear hb); (try clear hb2); (try clear hk); (try clear hi))))
        go_ret2
        exact ⟨_, by first | rfl | (simp [errW_none, errW_some] <;> rfl) | (simp [*, errW_none, errW_some] <;> rfl), by first | exact Kd.R_nil _ _ _ _ _ | exact Kd.N_nil _ _ _ _ _ | exact Kd.V_nil _ _ _ _ _ | exact Kd.Q_nil _ _ _ _ _ | exact Kd.S_nil _ _ _ _ _, bl_ HB.out⟩
def impl_extended.l0 : Nat → Int → List Int → List (List Int) → Option ((List (List Int)))
 | 0, _, _, _ => none
 | k + 1, x1, x5, x6 => if (x6.length : Int) < x1 then (if 0 ≤ (wrap64 ((x6.length : Int) - 1)) then (if (wrap64 ((x6.length : Int) - 1)) < (x6.length : Int) then ((impl_NextRow.f k x5 (rd_L1 x6 (wrap64 ((x6.length : Int) - 1)))).bind fun bt163 => (if bt163.2 = true then (if x6.length < 5864062014805 then (impl_extended.l0 k x1 (rd_L1 x6 (wrap64 ((x6.length : Int) - 1))) (x6 ++ [bt163.1])) else (none)) else (some x6))) else (none)) else (none)) else (some x6)
def impl_extended.f (k : Nat) (l0 : List Int) (a1 : Int) : Option ((List (List Int))) := (slices_Repeat_int_int.f (([1] : List Int)) (l0.length : Int)).bind fun t156 => (impl_extended.l0 k a1 t156 (([l0] : List (List Int))))
set_option maxHeartbeats 8000000 in
set_option maxRecDepth 100000 in
theorem impl_extended.calls (k : Nat) (P0_ : Nat → Prop) (A0 : Option Addr) (c0 : Nat) (l0 : List Int) (a1 : Int) (r : List (List Int)) (w : World) (hs0 : Kd.V (Kd.int .i64) 3 w w.heap.size (fun k_ => P0_ k_) (.slice A0 l0.length c0) l0) (h : impl_extended.f k l0 a1 = some r) :
  Calls Try.prog 67 #[.slice A0 l0.length c0, .int .i64 a1] w fun e w' => ∃ v0_ : Value, e = .returned (v0_) ∧ Kd.N (Kd.slice 3 (Kd.int .i64)) 22 w' w.heap.size (fun k_ => (P0_ k_ ∨ w.heap.size ≤ k_)) v0_ r ∧ Below w.heap.size w w' := by
 have HO0 := Aside0.mk (show Kd.V (Kd.int .i64) 3 w w.heap.size (fun k_ => (P0_ k_ ∨ w.heap.size ≤ k_)) (.slice A0 l0.length c0) l0 from Kd.V_mono hs0 (fun k_ hk => .inl hk))
 have HB := Aside0.mk (Below.refl w.heap.size w); have H : ((slices_Repeat_int_int.f (([1] : List Int)) (l0.length : Int)).bind fun t156 => (impl_extended.l0 k a1 t156 (([l0] : List (List Int))))) = some r := h
 clear h; obtain ⟨y153, hy153⟩ : ∃ y_ : List Int, y_ = (([1] : List Int)) := ⟨_, rfl⟩; replace H : ((slices_Repeat_int_int.f y153 (l0.length : Int)).bind fun t156 => (impl_extended.l0 k a1 t156 (([l0] : List (List Int))))) = some r := rh_ hy153 H
 have Ny153 := Aside0.mk hy153; clear hy153; replace H := Option.bind_eq_some_iff.mp H; obtain ⟨t156, A30, H⟩ := H; replace H : (impl_extended.l0 k a1 t156 (([l0] : List (List Int)))) = some r := H; have A3 := Aside0.mk A30; clear A30; obtain ⟨y159, hy159⟩ : ∃ y_ : List (List Int), y_ = (([l0] : List (List Int))) := ⟨_, rfl⟩; replace H : (impl_extended.l0 k a1 t156 y159) = some r := rh_ hy159 H; have Ny159 := Aside0.mk hy159; clear hy159; have H' := Aside0.mk H; clear H
 go_enter Try.func67, Try.ntmps67
 go_wp2_with (first | ((with_reducible refine gate_dst (N := 10) rfl ?_); refine Kd.R_lit (Kd.int .i64) _ 3 ?hg (N := 10) ?hd (xs := ([1] : List Int)) (inner := [.int .i64 1]) (ok := fun _ => True) (okp := fun _ => True) ?hr ?hp (fun _ hk => hk) trivial (Below.refl _ _) (Nat.le_refl _) (by simp) ?_; (case hd => rfl); (case hg => rfl); (case hr => first | (go_simp; done) | (go_simp; rfl)); (case hp => exact (Reps.one (show Kd.M (Kd.int .i64) _ _ _ 1 [.int .i64 1] from rfl) (Reps.none _ _))); intro v154 w4 ho5 hb hg_ hnew_; clear hg_ hnew_; (first | rw [← Ny153.out] at ho5 | (simp only [Int.reduceToNat] at ho5; rw [← Ny153.out] at ho5)); have n0_ := Aside0.mk (Kd.V_elder' (by (with_reducible repeat (first | apply Kd.V_alloc | apply Kd.V_drewN | apply Kd.V_drew)); exact HO0.out) (Kd.R_base ho5) hb); have n1_ := Aside0.mk (Kd.R_lower (Kd.R_newM (M := fun k_ => (w.heap.size ≤ k_)) ho5 (below_size (bl_ HB.out)) (fun k_ h_ => h_)) (below_size (bl_ HB.out))); have n2_ := Aside0.mk (below_step (bl_ HB.out) hb); clear HO0; clear HB; have HO0 := n0_; have HO155 := n1_; have HB := n2_; clear n0_ n1_ n2_; clear hb ho5; obtain ⟨Ao6, co6, eo6⟩ := Kd.R_slice HO155.out; subst eo6) | ((with_reducible refine gate_callee (f := 91) rfl ?_); refine goesL_ (some 13) rfl rfl Try.func91 (by kernel_rfl) rfl #[.slice Ao6 y153.length co6, .int .i64 (l0.length : Int)] rfl (by (try simp only [List.map_toArray, List.map_cons, List.map_nil]); first | done | rfl | (simp only [List.length_drop, List.length_take]; rfl)) ?_; (with_reducible refine (slices_Repeat_int_int.calls _ _ y153 (l0.length : Int) t156 _ ?side1 ?side2 A3.out).mono ?_); (case side1 => repeat (first | exact (Kd.R_reads' HO155.out).2.2 | (with_reducible refine Kd.C_alloc ?_ _) | (with_reducible refine Kd.C_drewN ?_ _) | (with_reducible refine Kd.C_drew ?_))); (case side2 => exact (Kd.R_reads' HO155.out).2.1); rintro e w7 ⟨v157, rfl, ho0, hb⟩; refine ⟨_, rfl, ?_⟩; have n0_ := Aside0.mk (Kd.V_elder' (by (with_reducible repeat (first | apply Kd.V_alloc | apply Kd.V_drewN | apply Kd.V_drew)); exact HO0.out) (Kd.R_base ho0) hb); have n1_ := Aside0.mk (Kd.R_elder' (kr_ HO155.out) (Kd.R_base ho0) hb); have n2_ := Aside0.mk (Kd.R_lower (Kd.R_new' (Kd.R_newM (M := fun k_ => (w.heap.size ≤ k_)) ho0 (below_size (bl_ HB.out)) (fun k_ h_ => h_)) (Kd.R_lt (kr_ HO155.out))) (below_size (bl_ HB.out))); have n3_ := Aside0.mk (below_step (bl_ HB.out) hb); clear HO0; clear HO155; clear HB; have HO0 := n0_; have HO155 := n1_; have HO158 := n2_; have HB := n3_; clear n0_ n1_ n2_ n3_; (try clear hb); (try clear hb2); (try clear hk); (try clear hi); (try clear ho0)) | ((with_reducible refine gate_dst (N := 15) rfl ?_); refine Kd.N_lit (Kd.slice 3 (Kd.int .i64)) _ 22 ?hg (N' := 15) ?hd (xs := ([l0] : List (List Int))) (inner := [.slice A0 l0.length c0]) (ok := (fun k_ => (P0_ k_ ∨ w.heap.size ≤ k_) ∧ some k_ ≠ (.slice Ao6 y153.length co6 : Value).ownBlock ∧ some k_ ≠ (v157 : Value).ownBlock)) (okp := (fun k_ => (P0_ k_ ∨ w.heap.size ≤ k_) ∧ some k_ ≠ (.slice Ao6 y153.length co6 : Value).ownBlock ∧ some k_ ≠ (v157 : Value).ownBlock)) ?hr ?hp (fun _ hk => hk) ((show ∀ k_, w7.heap.size ≤ k_ → (fun k_ => (P0_ k_ ∨ w.heap.size ≤ k_) ∧ some k_ ≠ (.slice Ao6 y153.length co6 : Value).ownBlock ∧ some k_ ≠ (v157 : Value).ownBlock) k_ from fun k_ hk => ⟨(.inr (Nat.le_trans (below_size (bl_ HB.out)) hk)), Kd.fresh' (Kd.R_lt (kr_ HO155.out)) k_ hk, Kd.fresh' (Kd.R_lt (kr_ HO158.out)) k_ hk⟩) _ (Nat.le_refl _)) (Below.refl _ _) (Nat.le_refl _) (by simp) ?_; (case hd => rfl); (case hg => rfl); (case hr => first | (go_simp; done) | (go_simp; rfl)); (case hp => exact (Reps.one (show Kd.FK (Kd.slice 3 (Kd.int .i64)) _ _ l0 [.slice A0 l0.length c0] from (Kd.FK_slice_mk (Kd.V_reads' (Kd.V_mono (ok' := (fun k_ => (P0_ k_ ∨ w.heap.size ≤ k_) ∧ some k_ ≠ (.slice Ao6 y153.length co6 : Value).ownBlock ∧ some k_ ≠ (v157 : Value).ownBlock)) (HO0.out) (fun k_ hk => ⟨hk.1.1, ⟨hk.1.2, hk.2⟩⟩))).2.1 (Kd.V_F (Kd.V_mono (ok' := (fun k_ => (P0_ k_ ∨ w.heap.size ≤ k_) ∧ some k_ ≠ (.slice Ao6 y153.length co6 : Value).ownBlock ∧ some k_ ≠ (v157 : Value).ownBlock)) (HO0.out) (fun k_ hk => ⟨hk.1.1, ⟨hk.1.2, hk.2⟩⟩))))) (Reps.none _ _))); intro v160 w8 ho9 hb hg_ hnew_; clear hg_ hnew_; (first | rw [← Ny159.out] at ho9 | (simp only [Int.reduceToNat] at ho9; rw [← Ny159.out] at ho9)); have n0_ := Aside0.mk (Kd.V_elder' (by (with_reducible repeat (first | apply Kd.V_alloc | apply Kd.V_drewN | apply Kd.V_drew)); exact HO0.out) (Kd.N_base ho9) hb); have n1_ := Aside0.mk (Kd.R_below (kr_ HO155.out) hb); have n2_ := Aside0.mk (Kd.R_below (kr_ HO158.out) hb); have n3_ := Aside0.mk (Kd.N_lower ho9 (below_size (bl_ HB.out))); have n4_ := Aside0.mk (below_step (bl_ HB.out) hb); clear HO0; clear HO155; clear HO158; clear HB; have HO0 := n0_; have HO155 := n1_; have HO158 := n2_; have HO161 := n3_; have HB := n4_; clear n0_ n1_ n2_ n3_ n4_; clear hb ho9))
 go_loopg [5, 6] k (fun kq v5 v6 w' => ∃ (x5_1 : List Int) (x6_1 : List (List Int)), Aside0 (impl_extended.l0 kq a1 x5_1 x6_1 = some r) ∧ Aside0 (kq ≤ k) ∧ Aside0 (Kd.V (Kd.int .i64) 3 w' w.heap.size (fun k_ => (P0_ k_ ∨ w.heap.size ≤ k_) ∧ some k_ ≠ (v6 : Value).ownBlock) v5 x5_1) ∧ Aside0 (Kd.N (Kd.slice 3 (Kd.int .i64)) 22 w' w.heap.size (fun k_ => (P0_ k_ ∨ w.heap.size ≤ k_)) v6 x6_1) ∧ Aside0 (Below w.heap.size w w'))
 case atStart => exact ⟨(t156), (y159), H', ⟨Nat.le_refl _⟩, ⟨Kd.V_mono (Kd.R_V (by (with_reducible repeat (first | apply Kd.R_alloc | apply Kd.R_drewN | apply Kd.R_drew)); exact Kd.R_apart' HO158.out (Kd.N_typed HO161.out) (by decide))) (fun k_ hk => by first | exact ⟨(.inr (hk.1.1.1)), hk.2⟩ | exact (.inr (hk)))⟩, ⟨by (with_reducible repeat (first | apply Kd.N_alloc | apply Kd.N_drewN | apply Kd.N_drew)); exact Kd.N_mono HO161.out (fun _ hk => hk.1)⟩, ⟨bl_ HB.out⟩⟩
 case round =>
  clear H'
  try clear p2
  try clear c6
  try clear c9
  obtain ⟨x5_1, x6_1, HA, HK1, HO_5, HO_6, HB⟩ := hrel
  cases gk with
  | zero => exact absurd HA.out (by simp [impl_extended.l0])
  | succ k1 =>
   have H := HA.out; clear HA
   simp only [impl_extended.l0] at H
   by_cases c10 : (x6_1.length : Int) < a1
   ·rw [if_pos c10] at H
    have c10b0 : decide ((x6_1.length : Int) < a1) = true := decide_eq_true c10; clear c10; obtain ⟨ji11, hji11⟩ : ∃ j_ : Int, (wrap64 ((x6_1.length : Int) - 1)) = j_ := ⟨_, rfl⟩; replace H : (if 0 ≤ (ji11) then (if (ji11) < (x6_1.length : Int) then ((impl_NextRow.f k1 x5_1 (rd_L1 x6_1 (ji11))).bind fun bt163 => (if bt163.2 = true then (if x6_1.length < 5864062014805 then (impl_extended.l0 k1 a1 (rd_L1 x6_1 (ji11)) (x6_1 ++ [bt163.1])) else (none)) else (some x6_1))) else (none)) else (none)) = some r := by first | (rw [hji11] at H; exact H) | (simp only [hji11] at H ⊢; exact H)
    have hji11w : (IntKind.i64.wrap ((x6_1.length : Int) - 1)) = ji11 := (i64_w _).trans hji11
    by_cases c12 : 0 ≤ (ji11)
    ·rw [if_pos c12] at H
     have c12b0 : decide (0 ≤ (ji11)) = true := decide_eq_true c12; clear c12
     by_cases c13 : (ji11) < (x6_1.length : Int)
     ·rw [if_pos c13] at H
      have c13b0 : decide ((ji11) < (x6_1.length : Int)) = true := decide_eq_true c13; clear c13; replace H := Option.bind_eq_some_iff.mp H; obtain ⟨⟨t163, t164⟩, A140, H⟩ := H; replace H : (if t164 = true then (if x6_1.length < 5864062014805 then (impl_extended.l0 k1 a1 (rd_L1 x6_1 (ji11)) (x6_1 ++ [t163])) else (none)) else (some x6_1)) = some r := H
      have A14 := Aside0.mk A140; clear A140
      by_cases c15 : t164 = true
      ·subst c15
       have H1 : (if x6_1.length < 5864062014805 then (impl_extended.l0 k1 a1 (rd_L1 x6_1 (ji11)) (x6_1 ++ [t163])) else (none)) = some r := by rw [if_pos rfl] at H; exact H
       clear H; have H := H1; clear H1
       by_cases c16 : x6_1.length < 5864062014805
       ·rw [if_pos c16] at H
        have LMc16 := Aside0.mk c16; clear c16; obtain ⟨y167, hy167⟩ : ∃ y_ : List (List Int), y_ = (x6_1 ++ [t163]) := ⟨_, rfl⟩; replace H : (impl_extended.l0 k1 a1 (rd_L1 x6_1 (ji11)) y167) = some r := rh_ hy167 H; have Ny167 := Aside0.mk hy167; clear hy167; have H' := Aside0.mk H; clear H; obtain ⟨Ao17, co17, eo17⟩ := Kd.N_slice HO_6.out; subst eo17; have p162 : 0 ≤ ((ji11) : Int) := of_decide_eq_true as_; have q162 : (ji11) < (x6_1.length : Int) := of_decide_eq_true as_; obtain ⟨ad162, A162_0, c162_0, e162, hx162_0, hl162_0, hi162_0⟩ := at_L1 (Kd.N_reads' HO_6.out).2.2 (ji11) p162 q162
        cases e162
        obtain ⟨ce162, hce162, hMe162, hcc162⟩ := Kd.N_get HO_6.out [] (ji11) p162 (by first | exact q162 | exact of_decide_eq_true as_ | (have e_ := (Kd.N_reads' HO_6.out).1; omega))
        obtain ⟨ua162_0, uc162_0, rfl, ul162_0, ge162_0⟩ := Kd.FK_slice_open hMe162; have hv162_0 := hcc162 0 _ rfl; rw [Nat.add_zero, show ((Kd.slice 3 (Kd.int .i64))).sz = 1 from rfl, Nat.mul_one] at hv162_0
        replace hv162_0 := Option.some.inj (hv162_0.symm.trans hx162_0)
        injection hv162_0 with hva_ hvn_ hvc_
        rw [hva_] at ge162_0
        rw [hvc_] at ul162_0
        have HL162_0 := Aside0.mk (show Kd.V (Kd.int .i64) 3 _ w.heap.size _ _ (rd_L1 x6_1 (ji11)) from Kd.V_mk ul162_0 ge162_0)
        clear hva_ hvn_ hvc_ ge162_0 ul162_0; clear hcc162 hce162; have HR162_0 := Aside0.mk hi162_0; have HC162_0 := Aside0.mk hl162_0; clear hi162_0 hl162_0; replace p162 := eq_true p162; replace q162 := eq_true q162; obtain ⟨Ao18, co18, eo18⟩ := Kd.V_slice HO_5.out; subst eo18
        go_wp2_with (first | ((with_reducible refine gate_callee (f := 92) rfl ?_); refine goesL_ (some 29) rfl rfl Try.func92 (by kernel_rfl) rfl #[.slice Ao18 x5_1.length co18, .slice A162_0 (rd_L1 x6_1 (ji11)).length c162_0] rfl (by (try simp only [List.map_toArray, List.map_cons, List.map_nil]); first | done | (simp only [hji11]; rfl) | rfl | (simp only [List.length_drop, List.length_take]; rfl)) ?_; (with_reducible refine (impl_NextRow.calls k1 _ _ x5_1 _ _ (rd_L1 x6_1 (ji11)) t163 true _ ?side1 ?side2 ?side3 ?side4 A14.out).mono ?_); (case side1 => repeat (first | exact (Kd.V_reads' HO_5.out).2.2 | (with_reducible refine Kd.C_alloc ?_ _) | (with_reducible refine Kd.C_drewN ?_ _) | (with_reducible refine Kd.C_drew ?_))); (case side2 => exact (Kd.V_reads' HO_5.out).2.1); (case side3 => repeat (first | exact (by repeat (first | (with_reducible exact HR162_0.out) | (with_reducible refine Kd.C_alloc ?_ _) | (with_reducible refine Kd.C_drewN ?_ _) | (with_reducible refine Kd.C_drew ?_) | exact HR162_0.out)) | (with_reducible refine Kd.C_alloc ?_ _) | (with_reducible refine Kd.C_drewN ?_ _) | (with_reducible refine Kd.C_drew ?_))); (case side4 => exact HC162_0.out); rintro e w19 ⟨v165, rfl, ho0, hb⟩; refine ⟨_, rfl, ?_⟩; have n0_ := Aside0.mk (Kd.V_elder' (by (with_reducible repeat (first | apply Kd.V_alloc | apply Kd.V_drewN | apply Kd.V_drew)); exact HO_5.out) (Kd.R_base ho0) hb); have n1_ := Aside0.mk (Kd.N_elder' (by (with_reducible repeat (first | apply Kd.N_alloc | apply Kd.N_drewN | apply Kd.N_drew)); exact HO_6.out) (Kd.R_base ho0) hb); have n2_ := Aside0.mk (Kd.V_elder' (by (with_reducible repeat (first | apply Kd.V_alloc | apply Kd.V_drewN | apply Kd.V_drew)); exact HL162_0.out) (Kd.R_base ho0) hb); have n3_ := Aside0.mk (Kd.R_lower (Kd.R_newM (M := fun k_ => (w.heap.size ≤ k_)) ho0 (below_size (bl_ HB.out)) (fun k_ h_ => h_)) (below_size (bl_ HB.out))); have n4_ := Aside0.mk (Kd.C_below (by repeat (first | (with_reducible exact HR162_0.out) | (with_reducible refine Kd.C_alloc ?_ _) | (with_reducible refine Kd.C_drewN ?_ _) | (with_reducible refine Kd.C_drew ?_) | exact HR162_0.out)) hb); have n5_ := Aside0.mk (below_step (bl_ HB.out) hb); clear HO_5; clear HO_6; clear HL162_0; clear HR162_0; clear HB; have HO_5 := n0_; have HO_6 := n1_; have HL162_0 := n2_; have HO166 := n3_; have HR162_0 := n4_; have HB := n5_; clear n0_ n1_ n2_ n3_ n4_ n5_; (try clear hb); (try clear hb2); (try clear hk); (try clear hi); (try clear ho0); obtain ⟨Ao21, co21, eo21⟩ := Kd.R_slice HO166.out; subst eo21) | ((with_reducible refine gate_builtin (b := .append) (xs := #[.tmp 35, .tmp 37]) rfl ?_); at_builtin; refine Kd.N_append (Kd.slice 3 (Kd.int .i64)) (w0 := w) w.heap.size rfl (.tmp 35) (.tmp 37) 23 22 (.slice none 0 0) 24 rfl Try.underlying23 info22 rfl (by decide) (by omega) (.slice (some ad162) x6_1.length co17) x6_1 t163 [.slice Ao21 t163.length co21] (fun k_ => (P0_ k_ ∨ w.heap.size ≤ k_)) (fun k_ => ((fun k_ => (P0_ k_ ∨ w.heap.size ≤ k_))) k_ ∧ some k_ ≠ (.slice (some ad162) x6_1.length co17 : Value).ownBlock) rfl rfl ?aP (fun _ hk => hk) ?aF ?aO ?aB ?aS ?aL ?_; (case aP => exact (Kd.FK_slice_mk (Kd.R_reads' (Kd.R_mono (ok' := (fun k_ => ((fun k_ => (P0_ k_ ∨ w.heap.size ≤ k_))) k_ ∧ some k_ ≠ (.slice (some ad162) x6_1.length co17 : Value).ownBlock)) (Kd.R_apart' (HO166.out) (Kd.N_typed HO_6.out) (by decide)) (fun k_ hk => ⟨(.inr (hk.1.1)), hk.2⟩))).2.1 (Kd.R_F (Kd.R_mono (ok' := (fun k_ => ((fun k_ => (P0_ k_ ∨ w.heap.size ≤ k_))) k_ ∧ some k_ ≠ (.slice (some ad162) x6_1.length co17 : Value).ownBlock)) (Kd.R_apart' (HO166.out) (Kd.N_typed HO_6.out) (by decide)) (fun k_ hk => ⟨(.inr (hk.1.1)), hk.2⟩))))); (case aB => exact (bl_ HB.out)); (case aF => exact (fun k_ hk => (.inr (Nat.le_trans (below_size (bl_ HB.out)) hk)))); (case aO => exact (by (with_reducible repeat (first | apply Kd.N_alloc | apply Kd.N_drewN | apply Kd.N_drew)); exact Kd.N_mono HO_6.out (fun _ hk => hk.1))); (case aS => exact (below_size (bl_ HB.out))); (case aL => have := LMc16.out; omega); intro v168 w20 ho hb hg hat; rw [← Ny167.out] at ho; have n0_ := Aside0.mk (Kd.V_afterv (ok := (fun k_ => (P0_ k_ ∨ w.heap.size ≤ k_) ∧ some k_ ≠ (.slice Ao21 t163.length co21 : Value).ownBlock)) (by (with_reducible repeat (first | apply Kd.V_alloc | apply Kd.V_drewN | apply Kd.V_drew)); exact Kd.V_mono HO_5.out (fun _ hk => ⟨⟨hk.1.1, hk.2⟩, hk.1.2⟩)) hg hat); have n1_ := Aside0.mk (Kd.V_afterv (ok := (fun k_ => (P0_ k_ ∨ w.heap.size ≤ k_) ∧ some k_ ≠ (.slice Ao21 t163.length co21 : Value).ownBlock)) (by (with_reducible repeat (first | apply Kd.V_alloc | apply Kd.V_drewN | apply Kd.V_drew)); exact Kd.V_mono HL162_0.out (fun _ hk => ⟨⟨hk.1.1, hk.2⟩, hk.1.2⟩)) hg hat); have n2_ := Aside0.mk (hb); have n3_ := Aside0.mk (ho); clear HO_5; clear HL162_0; clear HB; clear HO_6; clear HO166; have HO_5 := n0_; have HL162_0 := n1_; have HB := n2_; have HO169 := n3_; clear n0_ n1_ n2_ n3_; clear ho hb hg hat))
        go_roundg k1
        case measure => have := HK1.out; omega
        case rel => exact ⟨(rd_L1 x6_1 (ji11)), (y167), H', ⟨by have := HK1.out; omega⟩, ⟨by (with_reducible repeat (first | apply Kd.V_alloc | apply Kd.V_drewN | apply Kd.V_drew)); exact Kd.V_mono HL162_0.out (fun _ hk => ⟨hk.1.1, hk.2⟩)⟩, ⟨by (with_reducible repeat (first | apply Kd.N_alloc | apply Kd.N_drewN | apply Kd.N_drew)); exact HO169.out⟩, ⟨bl_ HB.out⟩⟩
       ·rw [if_neg c16] at H
        exact absurd H (by simp)
      ·replace c15 := Bool.eq_false_iff.mpr c15
       subst c15; have H1 : (some x6_1) = some r := by rw [if_neg (show ¬ (false = true) by decide)] at H; exact H
       clear H; have H := H1; clear H1; obtain rfl := Option.some.inj H; obtain ⟨Ao22, co22, eo22⟩ := Kd.N_slice HO_6.out; subst eo22; have p162 : 0 ≤ ((ji11) : Int) := of_decide_eq_true as_; have q162 : (ji11) < (x6_1.length : Int) := of_decide_eq_true as_; obtain ⟨ad162, A162_0, c162_0, e162, hx162_0, hl162_0, hi162_0⟩ := at_L1 (Kd.N_reads' HO_6.out).2.2 (ji11) p162 q162
       cases e162
       obtain ⟨ce162, hce162, hMe162, hcc162⟩ := Kd.N_get HO_6.out [] (ji11) p162 (by first | exact q162 | exact of_decide_eq_true as_ | (have e_ := (Kd.N_reads' HO_6.out).1; omega))
       obtain ⟨ua162_0, uc162_0, rfl, ul162_0, ge162_0⟩ := Kd.FK_slice_open hMe162; have hv162_0 := hcc162 0 _ rfl; rw [Nat.add_zero, show ((Kd.slice 3 (Kd.int .i64))).sz = 1 from rfl, Nat.mul_one] at hv162_0
       replace hv162_0 := Option.some.inj (hv162_0.symm.trans hx162_0)
       injection hv162_0 with hva_ hvn_ hvc_
       rw [hva_] at ge162_0
       rw [hvc_] at ul162_0
       have HL162_0 := Aside0.mk (show Kd.V (Kd.int .i64) 3 _ w.heap.size _ _ (rd_L1 x6_1 (ji11)) from Kd.V_mk ul162_0 ge162_0)
       clear hva_ hvn_ hvc_ ge162_0 ul162_0; clear hcc162 hce162; have HR162_0 := Aside0.mk hi162_0; have HC162_0 := Aside0.mk hl162_0; clear hi162_0 hl162_0; replace p162 := eq_true p162; replace q162 := eq_true q162; obtain ⟨Ao23, co23, eo23⟩ := Kd.V_slice HO_5.out; subst eo23
       go_wp2_with (first | ((with_reducible refine gate_callee (f := 92) rfl ?_); refine goesL_ (some 29) rfl rfl Try.func92 (by kernel_rfl) rfl #[.slice Ao23 x5_1.length co23, .slice A162_0 (rd_L1 x6_1 (ji11)).length c162_0] rfl (by (try simp only [List.map_toArray, List.map_cons, List.map_nil]); first | done | (simp only [hji11]; rfl) | rfl | (simp only [List.length_drop, List.length_take]; rfl)) ?_; (with_reducible refine (impl_NextRow.calls k1 _ _ x5_1 _ _ (rd_L1 x6_1 (ji11)) t163 false _ ?side1 ?side2 ?side3 ?side4 A14.out).mono ?_); (case side1 => repeat (first | exact (Kd.V_reads' HO_5.out).2.2 | (with_reducible refine Kd.C_alloc ?_ _) | (with_reducible refine Kd.C_drewN ?_ _) | (with_reducible refine Kd.C_drew ?_))); (case side2 => exact (Kd.V_reads' HO_5.out).2.1); (case side3 => repeat (first | exact (by repeat (first | (with_reducible exact HR162_0.out) | (with_reducible refine Kd.C_alloc ?_ _) | (with_reducible refine Kd.C_drewN ?_ _) | (with_reducible refine Kd.C_drew ?_) | exact HR162_0.out)) | (with_reducible refine Kd.C_alloc ?_ _) | (with_reducible refine Kd.C_drewN ?_ _) | (with_reducible refine Kd.C_drew ?_))); (case side4 => exact HC162_0.out); rintro e w24 ⟨v165, rfl, ho0, hb⟩; refine ⟨_, rfl, ?_⟩; have n0_ := Aside0.mk (Kd.V_elder' (by (with_reducible repeat (first | apply Kd.V_alloc | apply Kd.V_drewN | apply Kd.V_drew)); exact HO_5.out) (Kd.R_base ho0) hb); have n1_ := Aside0.mk (Kd.N_elder' (by (with_reducible repeat (first | apply Kd.N_alloc | apply Kd.N_drewN | apply Kd.N_drew)); exact HO_6.out) (Kd.R_base ho0) hb); have n2_ := Aside0.mk (Kd.V_elder' (by (with_reducible repeat (first | apply Kd.V_alloc | apply Kd.V_drewN | apply Kd.V_drew)); exact HL162_0.out) (Kd.R_base ho0) hb); have n3_ := Aside0.mk (Kd.R_lower (Kd.R_newM (M := fun k_ => (w.heap.size ≤ k_)) ho0 (below_size (bl_ HB.out)) (fun k_ h_ => h_)) (below_size (bl_ HB.out))); have n4_ := Aside0.mk (Kd.C_below (by repeat (first | (with_reducible exact HR162_0.out) | (with_reducible refine Kd.C_alloc ?_ _) | (with_reducible refine Kd.C_drewN ?_ _) | (with_reducible refine Kd.C_drew ?_) | exact HR162_0.out)) hb); have n5_ := Aside0.mk (below_step (bl_ HB.out) hb); clear HO_5; clear HO_6; clear HL162_0; clear HR162_0; clear HB; have HO_5 := n0_; have HO_6 := n1_; have HL162_0 := n2_; have HO166 := n3_; have HR162_0 := n4_; have HB := n5_; clear n0_ n1_ n2_ n3_ n4_ n5_; (try clear hb); (try clear hb2); (try clear hk); (try clear hi); (try clear ho0)))
       go_ret
       exact ⟨_, by first | rfl | (simp [errW_none, errW_some] <;> rfl) | (simp only [← hji11]; first | rfl | (simp [errW_none, errW_some] <;> rfl)) | (simp [*, errW_none, errW_some] <;> rfl), by (with_reducible repeat (first | apply Kd.N_alloc | apply Kd.N_drewN | apply Kd.N_drew)); exact Kd.N_mono HO_6.out (fun _ hk => hk.1), bl_ HB.out⟩
     ·rw [if_neg c13] at H
      exact absurd H (by simp)
    ·rw [if_neg c12] at H
     exact absurd H (by simp)
   ·rw [if_neg c10] at H
    have c10b0 : decide ((x6_1.length : Int) < a1) = false := decide_eq_false c10; clear c10; obtain rfl := Option.some.inj H; obtain ⟨Ao25, co25, eo25⟩ := Kd.N_slice HO_6.out; subst eo25
    go_wp2
    go_ret
    exact ⟨_, by first | rfl | (simp [errW_none, errW_some] <;> rfl) | (simp [*, errW_none, errW_some] <;> rfl), by (with_reducible repeat (first | apply Kd.N_alloc | apply Kd.N_drewN | apply Kd.N_drew)); exact HO_6.out, bl_ HB.out⟩
end Go.Proofs.Ytmpmmhmnjdkgcab.PFnExactClosesAt
