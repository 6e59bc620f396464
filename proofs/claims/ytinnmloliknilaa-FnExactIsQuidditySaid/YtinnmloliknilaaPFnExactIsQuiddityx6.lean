-- Written for this claim by a program of this session (wip/tools/xprint.py over the kit's printer, wip/tools/shrink.py).
import Derived.Test.YtinnmloliknilaaPFnExactIsQuiddityx0
import Derived.Test.YtinnmloliknilaaPFnExactIsQuiddityx5
namespace Go.Proofs.Ytinnmloliknilaa.PFnExactIsQuiddity
open Go.RowKit Go.Proofs.YtinnmloliknilaaW.PrintWords Go.Proofs.YtinnmloliknilaaW.PrintLast Go.Proofs.YtinnmloliknilaaW.PrintMore
attribute [local go_sem] max2_int min2_int max_two min_two max_three min_three max_four min_four   -- for this text's walks alone
set_option linter.unusedVariables false
set_option linter.unusedSimpArgs false
def impl_Diagonal__at_impl_IsTriangulation_1.x (d0 d1 e0 e1 : Int) : Bool := (decide (d0 < e0) && decide (e0 < d1) && decide (d1 < e1)) || (decide (e0 < d0) && decide (d0 < e1) && decide (e1 < d1))
theorem impl_Diagonal__at_impl_IsTriangulation_1.xf (d0 d1 e0 e1 : Int) : impl_doCross.f d0 d1 e0 e1 = some (impl_Diagonal__at_impl_IsTriangulation_1.x d0 d1 e0 e1) := by
 unfold impl_doCross.f impl_Diagonal__at_impl_IsTriangulation_1.x
 by_cases h1 : d0 < e0 <;> by_cases h2 : e0 < d1 <;> by_cases h3 : d1 < e1 <;> by_cases h4 : e0 < d0 <;> by_cases h5 : d0 < e1 <;> by_cases h6 : e1 < d1 <;> simp [h1, h2, h3, h4, h5, h6]
def impl_Diagonal__at_impl_IsTriangulation_1.f (l0 : List (S52)) (d0 : Int) (d1 : Int) : Option Bool := if l0.length ≤ 1048576 then some (l0.any fun e => impl_Diagonal__at_impl_IsTriangulation_1.x d0 d1 e.f0 e.f1) else none
set_option maxHeartbeats 4000000 in
set_option maxRecDepth 100000 in
theorem impl_Diagonal__at_impl_IsTriangulation_1.clo (g : Nat) (d0 d1 e0 e1 : Int) (w : World) (hg : w.heap[g]? = some (.cells #[.int .i64 d0, .int .i64 d1] 52 (0, 0))) :
  Calls Try.prog 91 #[.agg #[.int .i64 e0, .int .i64 e1], .pointer (some ⟨g, 0, none⟩)] w fun e w' => e = .returned (.bool (impl_Diagonal__at_impl_IsTriangulation_1.x d0 d1 e0 e1)) ∧ Below w.heap.size w w' := by
 have hu := Try.underlying52; have HB := Aside0.mk (Below.refl w.heap.size w); have hc0 : w.cell? ⟨g, 0, none⟩ = some (.int .i64 d0) := (blk_cell hg 0).trans rfl; have hc1 : w.cell? ⟨g, 1, none⟩ = some (.int .i64 d1) := (blk_cell hg 1).trans rfl
 go_enter Try.func91, Try.ntmps91
 go_wp2_with (first | ((with_reducible refine gate_dst (N := 2) rfl ?_); refine box_event ?hg (N := 2) ?hd (cs := #[.int .i64 e0, .int .i64 e1]) (t := 52) ?hr ?_; (case hd => rfl); (case hg => rfl); (case hr => first | (go_simp; done) | (go_simp; rfl)); intro gb hgb w9 hbox hb; have HB9 := Aside0.mk hb; have hcz0 : w9.cell? ⟨gb, 0, none⟩ = some (.int .i64 e0) := (blk_cell hbox 0).trans rfl; have hcz1 : w9.cell? ⟨gb, 1, none⟩ = some (.int .i64 e1) := (blk_cell hbox 1).trans rfl; have hd0 := (hb.cell (World.block_lt_of_cell? w _ hc0)).trans hc0; have hd1 := (hb.cell (World.block_lt_of_cell? w _ hc1)).trans hc1; clear hgb hbox hb) | ((with_reducible refine gate_callee (f := 92) rfl ?_); refine goesL_ (some 6) rfl rfl Try.func92 (by kernel_rfl) rfl #[.agg #[.int .i64 d0, .int .i64 d1], .agg #[.int .i64 e0, .int .i64 e1]] rfl (by (try simp only [List.map_toArray, List.map_cons, List.map_nil]); first | done | rfl) ?_; (with_reducible refine (impl_doCross.calls d0 d1 e0 e1 _ _ (impl_Diagonal__at_impl_IsTriangulation_1.xf d0 d1 e0 e1)).mono ?_); rintro e w10 ⟨rfl, hb2⟩; have HB10 := Aside0.mk hb2; refine ⟨_, rfl, ?_⟩))
 go_ret
 exact ⟨rfl, below_step HB9.out HB10.out⟩
set_option maxHeartbeats 4000000 in
set_option maxRecDepth 100000 in
theorem impl_Diagonal__at_impl_IsTriangulation_1.idx (A0 : Option Addr) (c0 : Nat) (l0 : List (S52)) (g : Nat) (d0 : Int) (d1 : Int) (w : World) (hr0 : Kd.C k52 w A0 l0.length l0) (hc0 : l0.length ≤ c0) (hl : l0.length ≤ 1048576) (hg : w.heap[g]? = some (.cells #[.int .i64 d0, .int .i64 d1] 52 (0, 0))) :
  Calls Try.prog 112 #[.slice A0 l0.length c0, .func (.func 91) #[] #[.pointer (some ⟨g, 0, none⟩)]] w fun e w' => (∃ i : Int, e = .returned (.int .i64 i) ∧ (0 ≤ i ↔ (l0.any fun e => impl_Diagonal__at_impl_IsTriangulation_1.x d0 d1 e.f0 e.f1) = true)) ∧ Below w.heap.size w w' := by
 have hu := Try.underlying52; have HR0 := Aside0.mk hr0; have HC0 := Aside0.mk hc0; have HG := Aside0.mk hg; clear hr0 hc0 hg; have HB := Aside0.mk (Below.refl w.heap.size w)
 have HL : ∀ x : Int, 0 ≤ x → x < (l0.length : Int) → (l0.take (x.toNat + 1)).any (fun e => impl_Diagonal__at_impl_IsTriangulation_1.x d0 d1 e.f0 e.f1) = ((l0.take x.toNat).any (fun e => impl_Diagonal__at_impl_IsTriangulation_1.x d0 d1 e.f0 e.f1) || impl_Diagonal__at_impl_IsTriangulation_1.x d0 d1 (rd_T52 l0 x).f0 (rd_T52 l0 x).f1) := by
  intro x hx0 hx
  have h1 : l0[x.toNat]? = some (rd_T52 l0 x) := by
   have : x.toNat < l0.length := by omega
   simp [rd_T52, this]
  rw [List.take_add_one, h1, List.any_append]
  simp
 go_enter Try.func112, Try.ntmps112
 go_wp2
 go_loopg [8] (l0.length + 1) (fun kq v8 w' => ∃ (x : Int), v8 = .int .i64 x ∧ Aside0 (0 ≤ x ∧ (kq : Int) + x = l0.length + 1) ∧ Aside0 ((l0.take x.toNat).any (fun e => impl_Diagonal__at_impl_IsTriangulation_1.x d0 d1 e.f0 e.f1) = false) ∧ Aside0 (Below w.heap.size w w'))
 case atStart => exact ⟨0, rfl, ⟨by omega⟩, ⟨by simp⟩, HB⟩
 case round =>
  clear HB; obtain ⟨x, rfl, HK, HN, HB⟩ := hrel
  by_cases c4 : x < (l0.length : Int)
  ·have c4b0 : decide (x < (l0.length : Int)) = true := decide_eq_true c4
   have p1 : 0 ≤ x := HK.out.1; obtain ⟨ad, e1, hx0, hx1⟩ := at_T52 HR0.out x p1 c4
   cases e1
   replace hx0 := (HB.out.cell (World.block_lt_of_cell? w _ hx0)).trans hx0; replace hx1 := (HB.out.cell (World.block_lt_of_cell? w _ hx1)).trans hx1; have h3 := HL x p1 c4; have h4 : wrap64 (x + 1) = x + 1 := by simp only [wrap64]; omega
   replace p1 := eq_true p1; have q1 := eq_true c4
   cases hP : impl_Diagonal__at_impl_IsTriangulation_1.x d0 d1 (rd_T52 l0 x).f0 (rd_T52 l0 x).f1 with
   | true =>
    go_wp2_with (go_at_call 91; refine (impl_Diagonal__at_impl_IsTriangulation_1.clo g d0 d1 _ _ _ (blk_below HG.out HB.out)).mono ?_; rw [hP]; rintro e w10 ⟨rfl, hb2⟩; have HB10 := Aside0.mk (below_step HB.out hb2))
    go_ret
    exact ⟨⟨_, rfl, ⟨fun _ => by rw [← List.take_append_drop (x.toNat + 1) l0, List.any_append, h3, hP]; simp, fun _ => HK.out.1⟩⟩, HB10.out⟩
   | false =>
    go_wp2_with (go_at_call 91; refine (impl_Diagonal__at_impl_IsTriangulation_1.clo g d0 d1 _ _ _ (blk_below HG.out HB.out)).mono ?_; rw [hP]; rintro e w10 ⟨rfl, hb2⟩; have HB10 := Aside0.mk (below_step HB.out hb2))
    go_roundg (gk - 1)
    case measure => have := HK.out; omega
    case rel => exact ⟨x + 1, by first | rfl | (simp only [i64_w, h4]; done) | (simp [h4]; done), ⟨by have := HK.out; omega⟩, ⟨by rw [show (x + 1).toNat = x.toNat + 1 by have := HK.out; omega, h3, HN.out, hP]; rfl⟩, HB10⟩
  ·have c4b0 : decide (x < (l0.length : Int)) = false := decide_eq_false c4
   go_wp2
   go_ret
   have h2 := HN.out; rw [List.take_of_length_le (by omega)] at h2
   exact ⟨⟨-1, rfl, Iff.intro (fun h => absurd h (by decide)) (fun h => by rw [List.any_eq_true.mpr h] at h2; cases h2)⟩, HB.out⟩
set_option maxHeartbeats 4000000 in
set_option maxRecDepth 100000 in
theorem impl_Diagonal__at_impl_IsTriangulation_1.calls (A0 : Option Addr) (c0 : Nat) (l0 : List (S52)) (g : Nat) (d0 : Int) (d1 : Int) (r : Bool) (w : World) (hr0 : Kd.C k52 w A0 l0.length l0) (hc0 : l0.length ≤ c0) (hg : w.heap[g]? = some (.cells #[.int .i64 d0, .int .i64 d1] 52 (0, 0))) (h : impl_Diagonal__at_impl_IsTriangulation_1.f l0 d0 d1 = some r) :
  Calls Try.prog 90 #[.slice A0 l0.length c0, .func (.func 91) #[] #[.pointer (some ⟨g, 0, none⟩)]] w fun e w' => e = .returned (.bool r) ∧ Below w.heap.size w w' := by
 unfold impl_Diagonal__at_impl_IsTriangulation_1.f at h
 split at h
 case isFalse => cases h
 rename_i hl
 obtain rfl := Option.some.inj h
 go_enter Try.func90, Try.ntmps90
 go_wp2_with (go_at_call 112; refine (impl_Diagonal__at_impl_IsTriangulation_1.idx A0 c0 l0 g d0 d1 _ hr0 hc0 hl hg).mono ?_; rintro e w10 ⟨⟨i, rfl, hi0⟩, hb2⟩; have HI := Aside0.mk hi0; clear hi0; have HB10 := Aside0.mk hb2)
 go_ret
 have hi1 := HI.out; have h9 : decide (0 ≤ i) = (l0.any fun e => impl_Diagonal__at_impl_IsTriangulation_1.x d0 d1 e.f0 e.f1) := by rw [Bool.eq_iff_iff, decide_eq_true_iff]; exact hi1
 exact ⟨by rw [← h9]; rfl, HB10.out⟩
end Go.Proofs.Ytinnmloliknilaa.PFnExactIsQuiddity
