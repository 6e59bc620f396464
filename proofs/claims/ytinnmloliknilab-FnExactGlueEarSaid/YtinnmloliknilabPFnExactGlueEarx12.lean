-- Written for this claim by a program of this session (wip/tools/xprint.py over the kit's printer, wip/tools/shrink.py).
import Derived.Test.YtinnmloliknilabShelfT
import Derived.Test.YtinnmloliknilabPFnExactGlueEarx0
import Derived.Test.YtinnmloliknilabPFnExactGlueEarx5
import Derived.Test.YtinnmloliknilabPFnExactGlueEarx11
namespace Go.Proofs.Ytinnmloliknilab.PFnExactGlueEar
open Go.RowKit Go.Proofs.YtinnmloliknilabW.PrintWords Go.Proofs.YtinnmloliknilabW.PrintLast Go.Proofs.YtinnmloliknilabW.PrintMore
attribute [local go_sem] max2_int min2_int max_two min_two max_three min_three max_four min_four   -- for this text's walks alone
set_option linter.unusedVariables false
set_option linter.unusedSimpArgs false
def impl_IsQuiddity.f (k : Nat) (l0 : List Int) : Option (Bool) := (impl_triangulation.f k l0).bind fun bt353 => (some bt353.2)
set_option maxHeartbeats 8000000 in
set_option maxRecDepth 100000 in
theorem impl_IsQuiddity.calls (k : Nat) (A0 : Option Addr) (c0 : Nat) (l0 : List Int) (r : Bool) (w : World) (hr0 : Kd.C (Kd.int .i64) w A0 l0.length l0) (hc0 : l0.length ≤ c0) (h : impl_IsQuiddity.f k l0 = some r) :
  Calls Try.prog 56 #[.slice A0 l0.length c0] w fun e w' => e = .returned (.bool r) ∧ Below w.heap.size w w' := by
 have HR0 := Aside0.mk hr0; have HC0 := Aside0.mk hc0; clear hr0 hc0; have HB := Aside0.mk (Below.refl w.heap.size w); have H : ((impl_triangulation.f k l0).bind fun bt353 => (some bt353.2)) = some r := h
 clear h; replace H := Option.bind_eq_some_iff.mp H; obtain ⟨⟨t353, t354⟩, A20, H⟩ := H; replace H : (some t354) = some r := H; have A2 := Aside0.mk A20; clear A20; obtain rfl := Option.some.inj H
 go_enter Try.func56, Try.ntmps56
 go_wp2_with (first | ((with_reducible refine gate_callee (f := 75) rfl ?_); refine goesL_ (some 7) rfl rfl Try.func75 (by kernel_rfl) rfl #[.slice A0 l0.length c0] rfl (by (try simp only [List.map_toArray, List.map_cons, List.map_nil]); first | done | rfl | (simp only [List.length_drop, List.length_take]; rfl)) ?_; (with_reducible refine (impl_triangulation.calls k _ _ l0 t353 t354 _ ?side1 ?side2 A2.out).mono ?_); (case side1 => repeat (first | exact HR0.out | (with_reducible refine Kd.C_alloc ?_ _) | (with_reducible refine Kd.C_drewN ?_ _) | (with_reducible refine Kd.C_drew ?_))); (case side2 => exact HC0.out); rintro e w3 ⟨v355, rfl, ho0, hb⟩; refine ⟨_, rfl, ?_⟩; have n0_ := Aside0.mk (Kd.R_lower ho0 (below_size (bl_ HB.out))); have n1_ := Aside0.mk (below_step (bl_ HB.out) hb); clear HB; have HO356 := n0_; have HB := n1_; clear n0_ n1_; (try clear hb); (try clear hb2); (try clear hk); (try clear hi); (try clear ho0)))
 go_ret
 exact ⟨by first | rfl | (simp [errW_none, errW_some] <;> rfl) | (simp [*, errW_none, errW_some] <;> rfl), bl_ HB.out⟩
def slices_Insert_int_int.f (l0 : List Int) (a1 : Int) (l2 : List Int) : Option (List Int) := if (0 < l0.length ∧ l0.length ≤ 1000) ∧ (0 ≤ a1 ∧ a1 ≤ l0.length) ∧ l2.length = 1 then some (l0.take a1.toNat ++ l2 ++ l0.drop a1.toNat) else none
theorem slices_Insert_int_int.mixA {α : Type} {cur cs vs cur1 cur2 : List α} {i n : Nat} (hi : i ≤ n) (hn : n + 1 ≤ cur.length) (hc : cur.take n = cs) (hcl : cs.length = n) (hv : vs.length = 1)
  (h1 : cur1 = cur.take (i + 1) ++ cs.drop i ++ cur.drop (i + 1 + (cs.drop i).length)) (h2 : cur2 = cur1.take i ++ vs ++ cur1.drop (i + vs.length)) : cur2.take (n + 1) = cs.take i ++ vs ++ cs.drop i := by
 have e1 : cur1.take i = cs.take i := by
  rw [h1, List.append_assoc, List.take_append_of_le_length (by rw [List.length_take]; omega), List.take_take, ← hc, List.take_take]
  congr 1; omega
 have e2 : cur1.drop (i + 1) = cs.drop i ++ cur.drop (i + 1 + (cs.drop i).length) := by
  rw [h1, List.append_assoc, List.drop_append_of_le_length (by rw [List.length_take]; omega), List.drop_of_length_le (by rw [List.length_take]; omega), List.nil_append]
 rw [h2, hv, e1, e2, ← List.append_assoc, List.take_append_of_le_length (by simp only [List.length_append, List.length_take, List.length_drop]; omega), List.take_of_length_le (by simp only [List.length_append, List.length_take, List.length_drop]; omega)]
theorem slices_Insert_int_int.mixB {α : Type} {cur cs vs cur1 : List α} {n : Nat} (hc : cur.take n = cs) (hcl : cs.length = n) (hv : vs.length = 1)
  (h1 : cur1 = cur.take n ++ vs ++ cur.drop (n + vs.length)) : cur1.take (n + 1) = cs ++ vs := by
 rw [h1, hc, List.take_append_of_le_length (by simp only [List.length_append]; omega), List.take_of_length_le (by simp only [List.length_append]; omega)]
theorem slices_Insert_int_int.mixC {α : Type} {cur cs vs cur1 cur2 Z : List α} {i n : Nat} (hi : i ≤ n) (hc : cur = cs.take i ++ Z) (hn : n + 1 ≤ cur.length) (hcl : cs.length = n) (hv : vs.length = 1)
  (h1 : cur1 = cur.take i ++ vs ++ cur.drop (i + vs.length)) (h2 : cur2 = cur1.take (i + 1) ++ cs.drop i ++ cur1.drop (i + 1 + (cs.drop i).length)) : cur2.take (n + 1) = cs.take i ++ vs ++ cs.drop i := by
 have hti : (cs.take i).length = i := by rw [List.length_take]; omega
 have e0 : cur.take i = cs.take i := by
  rw [hc, List.take_append_of_le_length (by omega), List.take_of_length_le (by omega)]
 have e1 : cur1.take (i + 1) = cs.take i ++ vs := by
  rw [h1, e0, List.take_append_of_le_length (by simp only [List.length_append]; omega), List.take_of_length_le (by simp only [List.length_append]; omega)]
 rw [h2, e1, List.take_append_of_le_length (by simp only [List.length_append, List.length_take, List.length_drop]; omega), List.take_of_length_le (by simp only [List.length_append, List.length_take, List.length_drop]; omega)]
theorem slices_Insert_int_int.bel {w0 : World} {g : Nat} (hg : w0.heap.size ≤ g) (vs : List Value) (o : Nat) (w : World) (h : Below w0.heap.size w0 w) : Below w0.heap.size w0 (w.setCells g o vs) := by
 obtain ⟨h1, h2, h3, h4⟩ := setCells_same g vs o w; exact ⟨h1.trans h.os, h2.trans h.tape, h3.trans h.output, by rw [h4]; exact h.size, fun k hk => (setCells_far vs o k (by omega)).trans (h.block k hk)⟩
theorem slices_Insert_int_int.kept {P0_ : Nat → Prop} {w w1 : World} {g : Nat} (h : Kept w w1 (fun k_ => P0_ k_)) (hg : P0_ g ∨ w.heap.size ≤ g) (vs : List Value) (o : Nat) : Kept w (w1.setCells g o vs) (fun k_ => P0_ k_) := by
 obtain ⟨_, _, _, h4⟩ := setCells_same g vs o w1; exact ⟨by rw [h4]; exact h.1, fun i hi hn => (setCells_far vs o i (fun e => by rcases hg with hg | hg; exact hn (e ▸ hg); omega)).trans (h.2 i hi hn)⟩
theorem slices_Insert_int_int.kept0 (P0_ : Nat → Prop) (w : World) : Kept w w (fun k_ => P0_ k_) := ⟨Nat.le_refl _, fun _ _ _ => rfl⟩
theorem slices_Insert_int_int.keptA {P0_ : Nat → Prop} {w w1 : World} (h : Kept w w1 (fun k_ => P0_ k_)) (o : Obj) : Kept w (w1.alloc o) (fun k_ => P0_ k_) := by
 have hb := below_alloc (Below.refl w1.heap.size w1) o; exact ⟨Nat.le_trans h.1 hb.size, fun i hi hn => (hb.block i (by have := h.1; omega)).trans (h.2 i hi hn)⟩
theorem slices_Insert_int_int.calls (P0_ : Nat → Prop) (u9000_ : Value) (l0 : List Int) (a1 : Int) (A2 : Option Addr) (c2 : Nat) (l2 : List Int) (r : List Int) (w0 w : World) (hB : Below w0.heap.size w0 w) (ho0 : Kd.R (Kd.int .i64) 3 w w0.heap.size P0_ u9000_ l0)
  (hx2 : ∃ P2 : Nat → Prop, Kd.R (Kd.int .i64) 3 w w0.heap.size P2 (.slice A2 l2.length c2) l2 ∧ ∀ k, P2 k → some k ≠ u9000_.ownBlock)
  (hr2 : ∀ W' : World, Kept w W' (fun k_ => P0_ k_) → Kd.C (Kd.int .i64) W' A2 l2.length l2) (hc2 : l2.length ≤ c2) (h : slices_Insert_int_int.f l0 a1 l2 = some r) :
  Calls Try.prog 67 #[u9000_, .int .i64 a1, .slice A2 l2.length c2] w fun e w' => ∃ v0_ : Value, e = .returned (v0_) ∧ Kd.R (Kd.int .i64) 3 w' w0.heap.size (fun k_ => (P0_ k_ ∨ w.heap.size ≤ k_)) v0_ r ∧ Below w0.heap.size w0 w' ∧ Kept w w' (fun k_ => P0_ k_) := by
 unfold slices_Insert_int_int.f at h
 by_cases hc : (0 < l0.length ∧ l0.length ≤ 1000) ∧ (0 ≤ a1 ∧ a1 ≤ l0.length) ∧ l2.length = 1
 case neg => rw [if_neg hc] at h; cases h
 rw [if_pos hc] at h
 obtain rfl := Option.some.inj h; obtain ⟨⟨h0, h1⟩, ⟨h2, h3⟩, h4⟩ := hc; obtain ⟨i, rfl⟩ : ∃ i : Nat, a1 = i := ⟨a1.toNat, by omega⟩
 obtain ⟨x, rfl⟩ := List.length_eq_one_iff.1 h4; obtain ⟨P2, hR2, hap⟩ := hx2; have hP2 := hR2.1
 rcases (Kd.own_of_R hR2).2 with ⟨_, hn2⟩ | ⟨vb, vc, cur2, e1, _, hheap2, _⟩
 ·simp at hn2
 injection e1 with ea _ ec
 subst ea; subst ec; have hown := Kd.own_of_R ho0; have hP := ho0.1
 rcases hown.2 with ⟨_, hn⟩ | ⟨g, cap, cur, rfl, hbase, hheap, hnc, hcap, hcur, htake⟩
 ·omega
 have hP0 : P0_ g := hP g rfl; have hne : vb ≠ g := fun e => hap vb (hP2 vb rfl) (by rw [e]; rfl)
 rw [Nat.mul_one] at htake hcur
 have hmx : maxLen = 9223372036854775807 := rfl; have hil : i ≤ l0.length := by omega
 have hel : (encs (Value.int .i64) l0).length = l0.length := encs_length ..; have hvl : (encs (Value.int .i64) [x]).length = 1 := rfl
 have hat : ∀ j v, (encs (Value.int .i64) l0)[j]? = some v → w.cell? ⟨g, 0 + j, none⟩ = some v := by
  intro j v hj; have hlt : j < l0.length := by have := (List.getElem?_eq_some_iff.1 hj).1; rw [hel] at this; exact this
  rw [Nat.zero_add, blk_cell hheap j]; rw [← htake, List.getElem?_take, if_pos hlt] at hj
  simpa using hj
 have hv0 : w.cell? ⟨vb, 0, none⟩ = some (.int .i64 x) := by
  have hrr := Kd.reads_of_C (d := (0 : Int)) (hr2 w (slices_Insert_int_int.kept0 P0_ w)); obtain ⟨ad, ead, hcell⟩ := hrr.2.2 (by simp)
  cases ead
  have h6 := hcell 0 (by simp)
  rw [Addr.add_lit] at h6
  exact h6
 have hvs : ∀ j v, (encs (Value.int .i64) [x])[j]? = some v → w.cell? ⟨vb, 0 + j, none⟩ = some v := by
  intro j v hj
  match j, hj with
  | 0, hj => obtain rfl : Value.int .i64 x = v := Option.some.inj hj; exact hv0
 have h1c : ∀ v ∈ encs (Value.int .i64) l0, v.oneCell' = true := by
  intro v hv; obtain ⟨y, _, rfl⟩ := List.mem_map.1 hv; rfl
 have h1v : ∀ v ∈ encs (Value.int .i64) [x], v.oneCell' = true := by
  intro v hv; obtain ⟨y, _, rfl⟩ := List.mem_map.1 hv; rfl
 have htn : ((i : Nat) : Int).toNat = i := Int.toNat_natCast i
 have hE : encs (Value.int .i64) (l0.take ((i : Nat) : Int).toNat ++ [x] ++ l0.drop ((i : Nat) : Int).toNat) = (encs (Value.int .i64) l0).take i ++ encs (Value.int .i64) [x] ++ (encs (Value.int .i64) l0).drop i := by
  rw [htn]; simp only [encs, List.map_append, List.map_take, List.map_drop]
 have hRl : (l0.take ((i : Nat) : Int).toNat ++ [x] ++ l0.drop ((i : Nat) : Int).toNat).length = l0.length + 1 := by rw [htn]; simp only [List.length_append, List.length_take, List.length_drop, List.length_singleton]; omega
 have hone : (Value.int .i64 (0 : Int)).cells.size = 1 := rfl
 by_cases hroom : l0.length + 1 ≤ cap
 ·have hsp : ∀ j, j < l0.length + 1 → (w.cell? ⟨g, 0 + j, none⟩).isSome = true := fun j hj => by
   rw [Nat.zero_add, blk_cell hheap j, Array.getElem?_eq_getElem (by omega)]; rfl
  have hfz : ∀ j, j < l0.length + 1 → w.frozen? ⟨g, 0 + j, none⟩ = false := fun j _ => blk_frozen hheap _
  rcases Nat.lt_or_eq_of_le hil with hlt | rfl
  ·refine (Try.slices_Insert_int_shift g 0 l0.length cap i vb 0 1 c2 (encs (Value.int .i64) l0) (encs (Value.int .i64) [x]) w hlt (by omega) hroom (by omega) hne hel hvl hat hsp hfz hvs h1c h1v 3 3 cur2.size cur.size
    (by simp [World.shape?, hheap2]) (by simp [World.shape?, hheap]) (by omega) (blk_frozen hheap2 _) (blk_frozen hheap2 _)).mono ?_
   rintro e w' ⟨rfl, rfl⟩
   obtain ⟨cA, hA, sA, tA⟩ := setCells_row ((encs (Value.int .i64) l0).drop i) (0 + (i + 1)) w.drew cur (blk_drew hheap) (by rw [List.length_drop, hel]; omega)
   obtain ⟨cB, hB2, sB, tB⟩ := setCells_row (encs (Value.int .i64) [x]) (0 + i) _ cA hA (by rw [hvl]; omega)
   have hb2 : Below w0.heap.size w0 ((w.drew.setCells g (0 + (i + 1)) ((encs (Value.int .i64) l0).drop i)).setCells g (0 + i) (encs (Value.int .i64) [x])) := slices_Insert_int_int.bel hbase _ _ _ (slices_Insert_int_int.bel hbase _ _ _ (below_drew1 hB)); refine ⟨_, rfl, Kd.R_of_own ?_ (fun k hk => .inl (by have e : g = k := (by simpa [Value.ownBlock] using hk); exact e ▸ hP0)), hb2, slices_Insert_int_int.kept (slices_Insert_int_int.kept (show Kept w w.drew (fun k_ => P0_ k_) from slices_Insert_int_int.kept0 P0_ w) (.inl hP0) _ _) (.inl hP0) _ _⟩
   refine ⟨by rw [encs_length, Nat.mul_one], .inr ⟨g, cap, cB, by rw [hRl], hbase, hB2, by rw [hRl]; exact hroom, hcap, by omega, ?_⟩⟩
   rw [hRl, Nat.mul_one, hE]; rw [Nat.zero_add] at tA tB
   exact slices_Insert_int_int.mixA hil (by have h7 := Array.length_toList (xs := cur); omega) htake hel hvl tA tB
  ·refine (Try.slices_Insert_int_end_room g 0 l0.length cap vb 0 1 c2 (encs (Value.int .i64) [x]) w (by omega) hroom (by omega) hvl
    (fun j hj => by have := hsp (l0.length + j) (by omega); rw [← Nat.add_assoc] at this; exact this) (fun j _ => blk_frozen hheap _) hvs h1v).mono ?_
   rintro e w' ⟨rfl, rfl⟩
   obtain ⟨cA, hA, sA, tA⟩ := setCells_row (encs (Value.int .i64) [x]) (0 + l0.length) w cur hheap (by rw [hvl]; omega)
   have hb2 : Below w0.heap.size w0 (w.setCells g (0 + l0.length) (encs (Value.int .i64) [x])) := slices_Insert_int_int.bel hbase _ _ _ hB; refine ⟨_, rfl, Kd.R_of_own ?_ (fun k hk => .inl (by have e : g = k := (by simpa [Value.ownBlock] using hk); exact e ▸ hP0)), hb2, slices_Insert_int_int.kept (slices_Insert_int_int.kept0 P0_ w) (.inl hP0) _ _⟩
   refine ⟨by rw [encs_length, Nat.mul_one], .inr ⟨g, cap, cA, by rw [hRl], hbase, hA, by rw [hRl]; exact hroom, hcap, by omega, ?_⟩⟩
   rw [hRl, Nat.mul_one, hE]; rw [Nat.zero_add] at tA
   rw [List.take_of_length_le (Nat.le_of_eq hel), List.drop_of_length_le (Nat.le_of_eq hel), List.append_nil]; exact slices_Insert_int_int.mixB htake hel hvl tA
 ·have hroom' : cap < l0.length + 1 := by omega
  have hbig : (l0.length + 1) * 8 ≤ 140737488355328 := by omega
  have hsz : w0.heap.size ≤ w.heap.size := hB.size
  rcases Nat.lt_or_eq_of_le hil with hlt | rfl
  ·refine (Try.slices_Insert_int_grow g 0 l0.length cap i vb 0 1 c2 (encs (Value.int .i64) l0) (encs (Value.int .i64) [x]) w hlt (by omega) hnc hroom' hbig hel hvl hat hvs h1c h1v).mono ?_
   rintro e w' ⟨rfl, rfl⟩
   generalize hgc : grownCap w (l0.length + 1) cap 3 = gc; have g1 : l0.length + 1 ≤ gc := hgc ▸ grownCap_ge ..; have g2 : gc ≤ maxLen := hgc ▸ grownCap_le_maxLen _ _ _ _ (by omega)
   generalize hob : (((encs (Value.int .i64) l0).take i).toArray ++ Builtin.zeroCells (Value.int .i64 0).cells (l0.length + 1 - i) ++ Builtin.zeroCells (Value.int .i64 0).cells (gc - (l0.length + 1))) = ob
   have hos : ob.size = gc := by
    rw [← hob]; simp only [Array.size_append, List.size_toArray, List.length_take, hel, size_zeroCells, hone]; omega
   have hol : ob.toList = (encs (Value.int .i64) l0).take i ++ ((Builtin.zeroCells (Value.int .i64 0).cells (l0.length + 1 - i)).toList ++ (Builtin.zeroCells (Value.int .i64 0).cells (gc - (l0.length + 1))).toList) := by
    rw [← hob]; simp only [Array.toList_append, List.append_assoc]
   obtain ⟨cA, hA, sA, tA⟩ := setCells_row (encs (Value.int .i64) [x]) i (w.alloc (.cells ob 3)).drew ob (blk_new w _) (by rw [hvl]; omega)
   obtain ⟨cB, hB2, sB, tB⟩ := setCells_row ((encs (Value.int .i64) l0).drop i) (i + 1) _ cA (blk_drew hA) (by rw [List.length_drop, hel]; omega)
   refine ⟨_, rfl, Kd.R_of_own ?_ (fun k hk => .inr (by have e : w.heap.size = k := (by simpa [Value.ownBlock] using hk); omega)), slices_Insert_int_int.bel hsz _ _ _ (below_drew1 (slices_Insert_int_int.bel hsz _ _ _ (below_drew1 (below_alloc hB _)))), ?_⟩
   ·refine ⟨by rw [encs_length, Nat.mul_one], .inr ⟨w.heap.size, gc, cB, by rw [hRl], hsz, hB2, by rw [hRl]; exact g1, g2, by omega, ?_⟩⟩
    rw [hRl, Nat.mul_one, hE]; exact slices_Insert_int_int.mixC hil hol (by have h7 := Array.length_toList (xs := ob); omega) hel hvl tA tB
   ·have k1 : Kept w (w.alloc (.cells ob 3)).drew (fun k_ => P0_ k_) := slices_Insert_int_int.keptA (slices_Insert_int_int.kept0 P0_ w) _
    have k2 : Kept w ((w.alloc (.cells ob 3)).drew.setCells w.heap.size i (encs (Value.int .i64) [x])).drew (fun k_ => P0_ k_) := slices_Insert_int_int.kept k1 (.inr (Nat.le_refl _)) _ _
    exact slices_Insert_int_int.kept k2 (.inr (Nat.le_refl _)) _ _
  ·refine (Try.slices_Insert_int_end_grow (some ⟨g, 0, none⟩) l0.length cap vb 0 1 c2 (encs (Value.int .i64) l0) (encs (Value.int .i64) [x]) w (by omega) hnc hroom' hbig hel hvl (fun e => by cases e) (fun a ha j v hj => by cases ha; rw [Addr.add_lit]; exact hat j v hj) hvs h1v).mono ?_
   rintro e w' ⟨rfl, rfl⟩
   generalize hgc : grownCap w (l0.length + 1) cap 3 = gc; have g1 : l0.length + 1 ≤ gc := hgc ▸ grownCap_ge ..; have g2 : gc ≤ maxLen := hgc ▸ grownCap_le_maxLen _ _ _ _ (by omega)
   refine ⟨_, rfl, Kd.R_of_own ?_ (fun k hk => .inr (by have e : w.heap.size = k := (by simpa [Value.ownBlock] using hk); omega)), below_alloc (below_drew1 hB) _, slices_Insert_int_int.keptA (slices_Insert_int_int.kept0 P0_ w) _⟩
   refine ⟨by rw [encs_length, Nat.mul_one], .inr ⟨w.heap.size, gc, _, by rw [hRl], hsz, blk_new w.drew _, by rw [hRl]; exact g1, g2, ?_, ?_⟩⟩
   ·simp only [Array.size_append, List.size_toArray, List.length_append, hel, hvl, size_zeroCells, hone]; omega
   ·rw [hRl, Nat.mul_one, hE, Array.toList_append, List.take_append_of_le_length (by simp only [List.length_append, hel, hvl]; omega), List.take_of_length_le (by simp only [List.length_append, hel, hvl]; omega)]
    rw [List.take_of_length_le (Nat.le_of_eq hel), List.drop_of_length_le (Nat.le_of_eq hel), List.append_nil]
def impl_GlueEar.j0 : Nat → List Int → Int → Int → Bool → Option (List Int × Bool)
 | 0, _, _, _, _ => none
 | k + 1, x0, x1, x6, x22 => if x22 = true then (some (([] : List Int), false)) else ((slices_Clone_int_int.f x0).bind fun t359 => ((slices_Insert_int_int.f t359 x1 (([1] : List Int))).bind fun t365 => (if 0 ≤ (wrap64 (x1 - 1)) then (if (wrap64 (x1 - 1)) < (t365.length : Int) then ((some (t365.set ((wrap64 (x1 - 1)) : Int).toNat (wrap64 ((rd t365 (wrap64 (x1 - 1))) + 1)) : List Int)).bind fun y369 => (if (wrap64 (x6 + 1)) = 0 then (none) else (if 0 ≤ (Int.tmod (wrap64 (x1 + 1)) (wrap64 (x6 + 1))) then (if (Int.tmod (wrap64 (x1 + 1)) (wrap64 (x6 + 1))) < (t365.length : Int) then (some ((y369.set ((Int.tmod (wrap64 (x1 + 1)) (wrap64 (x6 + 1))) : Int).toNat (wrap64 ((rd y369 (Int.tmod (wrap64 (x1 + 1)) (wrap64 (x6 + 1)))) + 1))), true)) else (none)) else (none)))) else (none)) else (none))))
def impl_GlueEar.f (k : Nat) (l0 : List Int) (a1 : Int) : Option (List Int × Bool) := (impl_IsQuiddity.f k l0).bind fun t357 => (if t357 = true then ((impl_within.f a1 1 (l0.length : Int)).bind fun t358 => (if t358 = true then (impl_GlueEar.j0 k l0 a1 (l0.length : Int) ((l0.length : Int) == 12)) else (impl_GlueEar.j0 k l0 a1 (l0.length : Int) true))) else (impl_GlueEar.j0 k l0 a1 (l0.length : Int) true))
set_option maxHeartbeats 8000000 in
set_option maxRecDepth 100000 in
theorem impl_GlueEar.calls (k : Nat) (A0 : Option Addr) (c0 : Nat) (l0 : List Int) (a1 : Int) (r1 : List Int) (r2 : Bool) (w : World) (hr0 : Kd.C (Kd.int .i64) w A0 l0.length l0) (hc0 : l0.length ≤ c0) (h : impl_GlueEar.f k l0 a1 = some (r1, r2)) :
  Calls Try.prog 37 #[.slice A0 l0.length c0, .int .i64 a1] w fun e w' => ∃ v0_ : Value, e = .returned (.tuple #[v0_, .bool r2]) ∧ Kd.R (Kd.int .i64) 3 w' w.heap.size (fun _ => True) v0_ r1 ∧ Below w.heap.size w w' := by
 have HR0 := Aside0.mk hr0; have HC0 := Aside0.mk hc0; clear hr0 hc0; have HB := Aside0.mk (Below.refl w.heap.size w); have H : ((impl_IsQuiddity.f k l0).bind fun t357 => (if t357 = true then ((impl_within.f a1 1 (l0.length : Int)).bind fun t358 => (if t358 = true then (impl_GlueEar.j0 k l0 a1 (l0.length : Int) ((l0.length : Int) == 12)) else (impl_GlueEar.j0 k l0 a1 (l0.length : Int) true))) else (impl_GlueEar.j0 k l0 a1 (l0.length : Int) true))) = some (r1, r2) := h
 clear h; have HC3 := Aside0.mk H; clear H
 go_enter Try.func37, Try.ntmps37
 go_upto_region 2 with (fail)
 go_cut [22] (fun v22 wc => ∃ (kq : Nat) (x22_2 : Bool), v22 = .bool x22_2 ∧ Aside0 (impl_GlueEar.j0 kq l0 a1 (l0.length : Int) x22_2 = some (r1, r2)) ∧ Aside0 (kq ≤ k) ∧ Aside0 (Below w.heap.size w wc))
 case first =>
  have H := HC3.out; clear HC3; replace H := Option.bind_eq_some_iff.mp H; obtain ⟨t357, A40, H⟩ := H; replace H : (if t357 = true then ((impl_within.f a1 1 (l0.length : Int)).bind fun t358 => (if t358 = true then (impl_GlueEar.j0 k l0 a1 (l0.length : Int) ((l0.length : Int) == 12)) else (impl_GlueEar.j0 k l0 a1 (l0.length : Int) true))) else (impl_GlueEar.j0 k l0 a1 (l0.length : Int) true)) = some (r1, r2) := H
  have A4 := Aside0.mk A40; clear A40
  by_cases c5 : t357 = true
  ·subst c5
   have H1 : ((impl_within.f a1 1 (l0.length : Int)).bind fun t358 => (if t358 = true then (impl_GlueEar.j0 k l0 a1 (l0.length : Int) ((l0.length : Int) == 12)) else (impl_GlueEar.j0 k l0 a1 (l0.length : Int) true))) = some (r1, r2) := by rw [if_pos rfl] at H; exact H
   clear H; have H := H1; clear H1; replace H := Option.bind_eq_some_iff.mp H; obtain ⟨t358, A60, H⟩ := H; replace H : (if t358 = true then (impl_GlueEar.j0 k l0 a1 (l0.length : Int) ((l0.length : Int) == 12)) else (impl_GlueEar.j0 k l0 a1 (l0.length : Int) true)) = some (r1, r2) := H
   have A6 := Aside0.mk A60; clear A60
   by_cases c7 : t358 = true
   ·subst c7
    have H1 : (impl_GlueEar.j0 k l0 a1 (l0.length : Int) ((l0.length : Int) == 12)) = some (r1, r2) := by rw [if_pos rfl] at H; exact H
    clear H; have H := H1; clear H1; have H' := Aside0.mk H; clear H
    go_wp2_with (first | ((with_reducible refine gate_callee (f := 56) rfl ?_); refine goesL_ (some 11) rfl rfl Try.func56 (by kernel_rfl) rfl #[.slice A0 l0.length c0] rfl (by (try simp only [List.map_toArray, List.map_cons, List.map_nil]); first | done | rfl | (simp only [List.length_drop, List.length_take]; rfl)) ?_; (with_reducible refine (impl_IsQuiddity.calls k _ _ l0 true _ ?side1 ?side2 A4.out).mono ?_); (case side1 => repeat (first | exact (Kd.C_below HR0.out HB.out) | (with_reducible refine Kd.C_alloc ?_ _) | (with_reducible refine Kd.C_drewN ?_ _) | (with_reducible refine Kd.C_drew ?_))); (case side2 => exact HC0.out); rintro e w8 ⟨rfl, hb⟩; refine ⟨_, rfl, ?_⟩; have n0_ := Aside0.mk (below_step (bl_ HB.out) hb); clear HB; have HB := n0_; clear n0_; (try clear hb); (try clear hb2); (try clear hk); (try clear hi)) | (go_at_call 53; (with_reducible refine (impl_within.calls a1 1 (l0.length : Int) true _ A6.out).mono ?_); rintro e w' ⟨rfl, ⟨nd, rfl⟩⟩))
    go_meet
    case rel => exact ⟨_, (((l0.length : Int) == 12)), (fs_), H', ⟨by first | omega | exact Nat.le_refl _⟩, ⟨bl_ HB.out⟩⟩
   ·replace c7 := Bool.eq_false_iff.mpr c7
    subst c7; have H1 : (impl_GlueEar.j0 k l0 a1 (l0.length : Int) true) = some (r1, r2) := by rw [if_neg (show ¬ (false = true) by decide)] at H; exact H
    clear H; have H := H1; clear H1; have H' := Aside0.mk H; clear H
    go_wp2_with (first | ((with_reducible refine gate_callee (f := 56) rfl ?_); refine goesL_ (some 11) rfl rfl Try.func56 (by kernel_rfl) rfl #[.slice A0 l0.length c0] rfl (by (try simp only [List.map_toArray, List.map_cons, List.map_nil]); first | done | rfl | (simp only [List.length_drop, List.length_take]; rfl)) ?_; (with_reducible refine (impl_IsQuiddity.calls k _ _ l0 true _ ?side1 ?side2 A4.out).mono ?_); (case side1 => repeat (first | exact (Kd.C_below HR0.out HB.out) | (with_reducible refine Kd.C_alloc ?_ _) | (with_reducible refine Kd.C_drewN ?_ _) | (with_reducible refine Kd.C_drew ?_))); (case side2 => exact HC0.out); rintro e w9 ⟨rfl, hb⟩; refine ⟨_, rfl, ?_⟩; have n0_ := Aside0.mk (below_step (bl_ HB.out) hb); clear HB; have HB := n0_; clear n0_; (try clear hb); (try clear hb2); (try clear hk); (try clear hi)) | (go_at_call 53; (with_reducible refine (impl_within.calls a1 1 (l0.length : Int) false _ A6.out).mono ?_); rintro e w' ⟨rfl, ⟨nd, rfl⟩⟩))
    go_meet
    case rel => exact ⟨_, (true), (fs_), H', ⟨by first | omega | exact Nat.le_refl _⟩, ⟨bl_ HB.out⟩⟩
  ·replace c5 := Bool.eq_false_iff.mpr c5
   subst c5; have H1 : (impl_GlueEar.j0 k l0 a1 (l0.length : Int) true) = some (r1, r2) := by rw [if_neg (show ¬ (false = true) by decide)] at H; exact H
   clear H; have H := H1; clear H1; have H' := Aside0.mk H; clear H
   go_wp2_with (first | ((with_reducible refine gate_callee (f := 56) rfl ?_); refine goesL_ (some 11) rfl rfl Try.func56 (by kernel_rfl) rfl #[.slice A0 l0.length c0] rfl (by (try simp only [List.map_toArray, List.map_cons, List.map_nil]); first | done | rfl | (simp only [List.length_drop, List.length_take]; rfl)) ?_; (with_reducible refine (impl_IsQuiddity.calls k _ _ l0 false _ ?side1 ?side2 A4.out).mono ?_); (case side1 => repeat (first | exact (Kd.C_below HR0.out HB.out) | (with_reducible refine Kd.C_alloc ?_ _) | (with_reducible refine Kd.C_drewN ?_ _) | (with_reducible refine Kd.C_drew ?_))); (case side2 => exact HC0.out); rintro e w10 ⟨rfl, hb⟩; refine ⟨_, rfl, ?_⟩; have n0_ := Aside0.mk (below_step (bl_ HB.out) hb); clear HB; have HB := n0_; clear n0_; (try clear hb); (try clear hb2); (try clear hk); (try clear hi)))
   go_meet
   case rel => exact ⟨_, (true), (fs_), H', ⟨by first | omega | exact Nat.le_refl _⟩, ⟨bl_ HB.out⟩⟩
 case rest =>
  clear HC3
  try clear p2
  try clear c3
  try clear c5
  try clear c7
  obtain ⟨kq, x22_2, rfl, HA, HJ2, HB⟩ := hcut
  cases kq with
  | zero => exact absurd HA.out (by simp [impl_GlueEar.j0])
  | succ kj2 =>
   have H := HA.out; clear HA
   simp only [impl_GlueEar.j0] at H
   by_cases c11 : x22_2 = true
   ·subst c11
    have H1 : (some (([] : List Int), false)) = some (r1, r2) := by rw [if_pos rfl] at H; exact H
    clear H; have H := H1; clear H1
    simp only [Option.some.injEq, Prod.mk.injEq] at H
    obtain ⟨rfl, rfl⟩ := H
    go_wp2
    go_ret2
    exact ⟨_, by first | rfl | (simp [errW_none, errW_some] <;> rfl) | (simp [*, errW_none, errW_some] <;> rfl), by first | exact Kd.R_nil _ _ _ _ _ | exact Kd.N_nil _ _ _ _ _ | exact Kd.V_nil _ _ _ _ _ | exact Kd.Q_nil _ _ _ _ _ | exact Kd.S_nil _ _ _ _ _, bl_ HB.out⟩
   ·replace c11 := Bool.eq_false_iff.mpr c11
    subst c11; have H1 : ((slices_Clone_int_int.f l0).bind fun t359 => ((slices_Insert_int_int.f t359 a1 (([1] : List Int))).bind fun t365 => (if 0 ≤ (wrap64 (a1 - 1)) then (if (wrap64 (a1 - 1)) < (t365.length : Int) then ((some (t365.set ((wrap64 (a1 - 1)) : Int).toNat (wrap64 ((rd t365 (wrap64 (a1 - 1))) + 1)) : List Int)).bind fun y369 => (if (wrap64 ((l0.length : Int) + 1)) = 0 then (none) else (if 0 ≤ (Int.tmod (wrap64 (a1 + 1)) (wrap64 ((l0.length : Int) + 1))) then (if (Int.tmod (wrap64 (a1 + 1)) (wrap64 ((l0.length : Int) + 1))) < (t365.length : Int) then (some ((y369.set ((Int.tmod (wrap64 (a1 + 1)) (wrap64 ((l0.length : Int) + 1))) : Int).toNat (wrap64 ((rd y369 (Int.tmod (wrap64 (a1 + 1)) (wrap64 ((l0.length : Int) + 1)))) + 1))), true)) else (none)) else (none)))) else (none)) else (none)))) = some (r1, r2) := by rw [if_neg (show ¬ (false = true) by decide)] at H; exact H
    clear H; have H := H1; clear H1; replace H := Option.bind_eq_some_iff.mp H; obtain ⟨t359, A120, H⟩ := H; replace H : ((slices_Insert_int_int.f t359 a1 (([1] : List Int))).bind fun t365 => (if 0 ≤ (wrap64 (a1 - 1)) then (if (wrap64 (a1 - 1)) < (t365.length : Int) then ((some (t365.set ((wrap64 (a1 - 1)) : Int).toNat (wrap64 ((rd t365 (wrap64 (a1 - 1))) + 1)) : List Int)).bind fun y369 => (if (wrap64 ((l0.length : Int) + 1)) = 0 then (none) else (if 0 ≤ (Int.tmod (wrap64 (a1 + 1)) (wrap64 ((l0.length : Int) + 1))) then (if (Int.tmod (wrap64 (a1 + 1)) (wrap64 ((l0.length : Int) + 1))) < (t365.length : Int) then (some ((y369.set ((Int.tmod (wrap64 (a1 + 1)) (wrap64 ((l0.length : Int) + 1))) : Int).toNat (wrap64 ((rd y369 (Int.tmod (wrap64 (a1 + 1)) (wrap64 ((l0.length : Int) + 1)))) + 1))), true)) else (none)) else (none)))) else (none)) else (none))) = some (r1, r2) := H
    have A12 := Aside0.mk A120; clear A120; obtain ⟨y362, hy362⟩ : ∃ y_ : List Int, y_ = (([1] : List Int)) := ⟨_, rfl⟩; replace H : ((slices_Insert_int_int.f t359 a1 y362).bind fun t365 => (if 0 ≤ (wrap64 (a1 - 1)) then (if (wrap64 (a1 - 1)) < (t365.length : Int) then ((some (t365.set ((wrap64 (a1 - 1)) : Int).toNat (wrap64 ((rd t365 (wrap64 (a1 - 1))) + 1)) : List Int)).bind fun y369 => (if (wrap64 ((l0.length : Int) + 1)) = 0 then (none) else (if 0 ≤ (Int.tmod (wrap64 (a1 + 1)) (wrap64 ((l0.length : Int) + 1))) then (if (Int.tmod (wrap64 (a1 + 1)) (wrap64 ((l0.length : Int) + 1))) < (t365.length : Int) then (some ((y369.set ((Int.tmod (wrap64 (a1 + 1)) (wrap64 ((l0.length : Int) + 1))) : Int).toNat (wrap64 ((rd y369 (Int.tmod (wrap64 (a1 + 1)) (wrap64 ((l0.length : Int) + 1)))) + 1))), true)) else (none)) else (none)))) else (none)) else (none))) = some (r1, r2) := rh_ hy362 H
    have Ny362 := Aside0.mk hy362; clear hy362; replace H := Option.bind_eq_some_iff.mp H; obtain ⟨t365, A130, H⟩ := H; replace H : (if 0 ≤ (wrap64 (a1 - 1)) then (if (wrap64 (a1 - 1)) < (t365.length : Int) then ((some (t365.set ((wrap64 (a1 - 1)) : Int).toNat (wrap64 ((rd t365 (wrap64 (a1 - 1))) + 1)) : List Int)).bind fun y369 => (if (wrap64 ((l0.length : Int) + 1)) = 0 then (none) else (if 0 ≤ (Int.tmod (wrap64 (a1 + 1)) (wrap64 ((l0.length : Int) + 1))) then (if (Int.tmod (wrap64 (a1 + 1)) (wrap64 ((l0.length : Int) + 1))) < (t365.length : Int) then (some ((y369.set ((Int.tmod (wrap64 (a1 + 1)) (wrap64 ((l0.length : Int) + 1))) : Int).toNat (wrap64 ((rd y369 (Int.tmod (wrap64 (a1 + 1)) (wrap64 ((l0.length : Int) + 1)))) + 1))), true)) else (none)) else (none)))) else (none)) else (none)) = some (r1, r2) := H
    have A13 := Aside0.mk A130; clear A130; obtain ⟨ji14, hji14⟩ : ∃ j_ : Int, (wrap64 (a1 - 1)) = j_ := ⟨_, rfl⟩; replace H : (if 0 ≤ (ji14) then (if (ji14) < (t365.length : Int) then ((some (t365.set ((ji14) : Int).toNat (wrap64 ((rd t365 (ji14)) + 1)) : List Int)).bind fun y369 => (if (wrap64 ((l0.length : Int) + 1)) = 0 then (none) else (if 0 ≤ (Int.tmod (wrap64 (a1 + 1)) (wrap64 ((l0.length : Int) + 1))) then (if (Int.tmod (wrap64 (a1 + 1)) (wrap64 ((l0.length : Int) + 1))) < (t365.length : Int) then (some ((y369.set ((Int.tmod (wrap64 (a1 + 1)) (wrap64 ((l0.length : Int) + 1))) : Int).toNat (wrap64 ((rd y369 (Int.tmod (wrap64 (a1 + 1)) (wrap64 ((l0.length : Int) + 1)))) + 1))), true)) else (none)) else (none)))) else (none)) else (none)) = some (r1, r2) := by first | (rw [hji14] at H; exact H) | (simp only [hji14] at H ⊢; exact H)
    (try rw [hji14] at A12)
    (try rw [hji14] at A13)
    have hji14w : (IntKind.i64.wrap (a1 - 1)) = ji14 := (i64_w _).trans hji14
    by_cases c15 : 0 ≤ (ji14)
    ·rw [if_pos c15] at H
     have c15b0 : decide (0 ≤ (ji14)) = true := decide_eq_true c15; clear c15
     by_cases c16 : (ji14) < (t365.length : Int)
     ·rw [if_pos c16] at H
      have c16b0 : decide ((ji14) < (t365.length : Int)) = true := decide_eq_true c16; clear c16; obtain ⟨y369, hy369⟩ : ∃ y_ : List Int, y_ = (t365.set ((ji14) : Int).toNat (wrap64 ((rd t365 (ji14)) + 1))) := ⟨_, rfl⟩; replace H : (if (wrap64 ((l0.length : Int) + 1)) = 0 then (none) else (if 0 ≤ (Int.tmod (wrap64 (a1 + 1)) (wrap64 ((l0.length : Int) + 1))) then (if (Int.tmod (wrap64 (a1 + 1)) (wrap64 ((l0.length : Int) + 1))) < (t365.length : Int) then (some ((y369.set ((Int.tmod (wrap64 (a1 + 1)) (wrap64 ((l0.length : Int) + 1))) : Int).toNat (wrap64 ((rd y369 (Int.tmod (wrap64 (a1 + 1)) (wrap64 ((l0.length : Int) + 1)))) + 1))), true)) else (none)) else (none))) = some (r1, r2) := rh_ hy369 H
      have Ny369 := Aside0.mk hy369; clear hy369
      by_cases c18 : (wrap64 ((l0.length : Int) + 1)) = 0
      ·rw [if_pos c18] at H
       exact absurd H (by simp)
      ·rw [if_neg c18] at H
       have c18b0 : ((wrap64 ((l0.length : Int) + 1)) == 0) = false := beq_eq_false_iff_ne.mpr c18; have c18b1 : ((wrap64 ((l0.length : Int) + 1)) != 0) = true := bne_iff_ne.mpr c18; obtain ⟨ji19, hji19⟩ : ∃ j_ : Int, (Int.tmod (wrap64 (a1 + 1)) (wrap64 ((l0.length : Int) + 1))) = j_ := ⟨_, rfl⟩; replace H : (if 0 ≤ (ji19) then (if (ji19) < (t365.length : Int) then (some ((y369.set ((ji19) : Int).toNat (wrap64 ((rd y369 (ji19)) + 1))), true)) else (none)) else (none)) = some (r1, r2) := by first | (rw [hji19] at H; exact H) | (simp only [hji19] at H ⊢; exact H)
       (try rw [hji19] at A12)
       (try rw [hji19] at A13)
       by_cases c20 : 0 ≤ (ji19)
       ·rw [if_pos c20] at H
        have c20b0 : decide (0 ≤ (ji19)) = true := decide_eq_true c20; clear c20
        by_cases c21 : (ji19) < (t365.length : Int)
        ·rw [if_pos c21] at H
         have c21b0 : decide ((ji19) < (t365.length : Int)) = true := decide_eq_true c21; clear c21; obtain ⟨y371, hy371⟩ : ∃ y_ : List Int, y_ = (y369.set ((ji19) : Int).toNat (wrap64 ((rd y369 (ji19)) + 1))) := ⟨_, rfl⟩; replace H : (some (y371, true)) = some (r1, r2) := rh_ hy371 H; have Ny371 := Aside0.mk hy371; clear hy371
         simp only [Option.some.injEq, Prod.mk.injEq] at H
         obtain ⟨rfl, rfl⟩ := H
         go_wp2_with (first | ((with_reducible refine gate_callee (f := 68) rfl ?_); refine goesL_ (some 24) rfl rfl Try.func68 (by kernel_rfl) rfl #[.slice A0 l0.length c0] rfl (by (try simp only [List.map_toArray, List.map_cons, List.map_nil]); first | done | rfl | (simp only [List.length_drop, List.length_take]; rfl)) ?_; (with_reducible refine (slices_Clone_int_int.calls _ _ l0 t359 _ ?side1 ?side2 A12.out).mono ?_); (case side1 => repeat (first | exact (Kd.C_below HR0.out HB.out) | (with_reducible refine Kd.C_alloc ?_ _) | (with_reducible refine Kd.C_drewN ?_ _) | (with_reducible refine Kd.C_drew ?_))); (case side2 => exact HC0.out); rintro e w23 ⟨v360, rfl, ho0, hb⟩; refine ⟨_, rfl, ?_⟩; have n0_ := Aside0.mk (Kd.R_lower ho0 (below_size (bl_ HB.out))); have n1_ := Aside0.mk (below_step (bl_ HB.out) hb); clear HB; have HO361 := n0_; have HB := n1_; clear n0_ n1_; (try clear hb); (try clear hb2); (try clear hk); (try clear hi); (try clear ho0)) | ((with_reducible refine gate_dst (N := 26) rfl ?_); refine Kd.R_lit (Kd.int .i64) _ 3 ?hg (N := 26) ?hd (xs := ([1] : List Int)) (inner := [.int .i64 1]) (ok := fun _ => True) (okp := fun _ => True) ?hr ?hp (fun _ hk => hk) trivial (Below.refl _ _) (Nat.le_refl _) (by simp) ?_; (case hd => rfl); (case hg => rfl); (case hr => first | (go_simp; done) | (go_simp; rfl)); (case hp => exact (Reps.one (show Kd.M (Kd.int .i64) _ _ _ 1 [.int .i64 1] from rfl) (Reps.none _ _))); intro v363 w24 ho25 hb hg_ hnew_; clear hg_ hnew_; (first | rw [← Ny362.out] at ho25 | (simp only [Int.reduceToNat] at ho25; rw [← Ny362.out] at ho25)); have n0_ := Aside0.mk (Kd.R_elder' (kr_ HO361.out) (Kd.R_base ho25) hb); have n1_ := Aside0.mk (Kd.R_lower (Kd.R_new' ho25 (Kd.R_lt (kr_ HO361.out))) (below_size (bl_ HB.out))); have n2_ := Aside0.mk (below_step (bl_ HB.out) hb); clear HO361; clear HB; have HO361 := n0_; have HO364 := n1_; have HB := n2_; clear n0_ n1_ n2_; clear hb ho25; obtain ⟨Ao26, co26, eo26⟩ := Kd.R_slice HO361.out; subst eo26; obtain ⟨Ao27, co27, eo27⟩ := Kd.R_slice HO364.out; subst eo27) | ((with_reducible refine gate_callee (f := 67) rfl ?_); refine goesL_ (some 27) rfl rfl Try.func67 (by kernel_rfl) rfl #[.slice Ao26 t359.length co26, .int .i64 a1, .slice Ao27 y362.length co27] rfl (by (try simp only [List.map_toArray, List.map_cons, List.map_nil]); first | done | rfl | (simp only [List.length_drop, List.length_take]; rfl)) ?_; (with_reducible refine (slices_Insert_int_int.calls (fun k_ => some k_ = (.slice Ao26 t359.length co26 : Value).ownBlock) (.slice Ao26 t359.length co26) t359 a1 _ _ y362 t365 w _ ?side1 ?side2 ⟨_, HO364.out, fun k_ hk_ => hk_.2⟩ ?side3 ?side4 A13.out).mono ?_); (case side1 => repeat (first | (with_reducible first | exact HB.out | apply below_alloc | apply pw_below_drewN | apply below_drew1) | exact HB.out)); (case side2 => exact Kd.R_tight rfl HO361.out); (case side3 => exact Kd.C_kept_own (HO364.out) (fun k_ hk_ hs_ => (hk_.2) hs_)); (case side4 => exact (Kd.R_reads' HO364.out).2.1); rintro e w28 ⟨v366, rfl, ho0, hb, hkp⟩; refine ⟨_, rfl, ?_⟩; have n0_ := Aside0.mk (Kd.R_mono (ok' := fun k_ => some k_ ≠ (v366 : Value).ownBlock) (Kd.R_keptB (HO364.out) hkp (fun k_ hk_ hs_ => (hk_.2) hs_)) (fun k_ hk_ => fun e_ => Or.elim (ho0.1 k_ e_.symm) (fun hs_ => hk_.2.1 hs_) (fun hn_ => Nat.not_le.2 hk_.2.2 hn_))); have n1_ := Aside0.mk (Kd.R_mono (ok' := fun k_ => some k_ ≠ (.slice Ao27 y362.length co27 : Value).ownBlock) ho0 (fun k_ hk_ => Or.elim hk_ (fun hs_ => fun e_ => (((HO364.out).1 k_ e_.symm).2) hs_) (fun hn_ => (Kd.fresh' (Kd.R_lt (kr_ HO364.out)) k_ hn_)))); have n2_ := Aside0.mk (hb); clear HO364; clear HB; clear HO361; have HO364 := n0_; have HO367 := n1_; have HB := n2_; clear n0_ n1_ n2_; (try clear hb); (try clear hkp); (try clear ho0); obtain ⟨Ao29, co29, eo29⟩ := Kd.R_slice HO367.out; subst eo29; have p368 : 0 ≤ ((ji14) : Int) := of_decide_eq_true as_; have q368 : (ji14) < (t365.length : Int) := of_decide_eq_true as_; obtain ⟨ad368, e368, hx368_0⟩ := Kd.at_int (Kd.R_reads' HO367.out).2.2 (ji14) p368 q368; cases e368; replace p368 := eq_true p368; replace q368 := eq_true q368; have p17 : 0 ≤ ((ji14) : Int) := of_decide_eq_true as_; have q17 : ((ji14) : Int) < ((t365.length : Int) : Int) := of_decide_eq_true as_; obtain ⟨go17, co17, eo17, gb17, gl17, cl17, HG17⟩ := Kd.R_form HO367.out (by omega); (first | cases eo17 | (injection eo17 with ea_ en_ ec_; (first | subst ea_ | (injection ea_ with ea_; subst ea_)); subst ec_; clear en_)); have GB17 := Aside0.mk gb17; have GG17 := Aside0.mk HG17; clear gb17 gl17 HG17; (first | simp only [add_plain] at hx368_0 | skip); obtain ⟨hx17_0, hf17_0⟩ := Kd.R_celln 0 HO367.out ((ji14) : Int) p17 q17; replace p17 := eq_true p17; replace q17 := eq_true q17; obtain ⟨hy30_, hz30_⟩ := Kd.R_celln 0 HO367.out ((ji14) : Int) (of_decide_eq_true as_) (of_decide_eq_true as_); have HP30 := Kd.R_putg HO367.out ((ji14) : Int) (wrap64 ((rd t365 (ji14)) + 1))) | ((with_reducible refine gate_store (t := 3) (p := 34) rfl ?_); refine store_event (t := 3) (p := 34) (v := ?vo_w31) (w1 := (w28.setCell ⟨go17, ((ji14) : Int).toNat, none⟩ (.int .i64 (wrap64 ((rd t365 (ji14)) + 1))))) ?hg ?ho ?hn ?hr ?_; (case ho => rfl); (case hg => rfl); (case hn => rfl); (case hr => first | (go_simp; done) | (go_simp; rfl)); intro w31 hw; have hg : w28.grownBy w31 (some go17) := (by rw [hw]; exact HP30.2); have hp_ : Kd.R (Kd.int .i64) 3 w31 w.heap.size (fun k_ => some k_ ≠ (.slice Ao27 y362.length co27 : Value).ownBlock) (.slice (some ⟨go17, 0, none⟩) t365.length co29) y369 := (by rw [hw, Ny369.out]; exact HP30.1); clear HP30; have n0_ := Aside0.mk (Kd.R_after (v := (.slice (some ⟨go17, 0, none⟩) t365.length co29)) (v1 := (.slice (some ⟨go17, 0, none⟩) t365.length co29)) (ok := (fun _ => True)) (by (with_reducible repeat (first | apply Kd.R_alloc | apply Kd.R_drewN | apply Kd.R_drew)); exact Kd.R_mono HO364.out (fun _ hk => ⟨trivial, hk⟩)) hg (.inl rfl)); have n1_ := Aside0.mk (hp_); have n2_ := Aside0.mk ((by rw [hw]; exact below_set (HB.out) GB17.out : Below w.heap.size w w31)); clear HO364; clear HO367; clear HB; have HO364 := n0_; have HO367 := n1_; have HB := n2_; clear n0_ n1_ n2_; clear hg hw hp_; have p370 : 0 ≤ ((ji19) : Int) := of_decide_eq_true as_; have q370 : (ji19) < (y369.length : Int) := (by have h_ : ((ji19) : Int) < ((t365.length : Int) : Int) := of_decide_eq_true as_; first | (have e_ := (Kd.R_reads' HO367.out).1; omega) | simpa only [Ny369.out, List.length_set] using h_); have ql370 : (((ji19) : Int) < ((t365.length : Int) : Int)) = True := eq_true (of_decide_eq_true as_); obtain ⟨ad370, e370, hx370_0⟩ := Kd.at_int (Kd.R_reads' HO367.out).2.2 (ji19) p370 q370; obtain rfl : (⟨go17, 0, none⟩ : Addr) = ad370 := (by injection e370); (first | simp only [add_plain] at hx370_0 | simp only [add_at] at hx370_0 | simp only [Addr.add, Nat.zero_add] at hx370_0 | skip); replace p370 := eq_true p370; replace q370 := eq_true q370; have p22 : 0 ≤ ((ji19) : Int) := of_decide_eq_true as_; have q22 : ((ji19) : Int) < ((t365.length : Int) : Int) := of_decide_eq_true as_; obtain ⟨hx22_0, hf22_0⟩ := Kd.R_celln 0 HO367.out ((ji19) : Int) p22 q22; replace p22 := eq_true p22; replace q22 := eq_true q22; obtain ⟨hy32_, hz32_⟩ := Kd.R_celln 0 HO367.out ((ji19) : Int) (of_decide_eq_true as_) (of_decide_eq_true as_); have HP32 := Kd.R_putg HO367.out ((ji19) : Int) (wrap64 ((rd y369 (ji19)) + 1))) | ((with_reducible refine gate_store (t := 3) (p := 44) rfl ?_); refine store_event (t := 3) (p := 44) (v := ?vo_w33) (w1 := (w31.setCell ⟨go17, ((ji19) : Int).toNat, none⟩ (.int .i64 (wrap64 ((rd y369 (ji19)) + 1))))) ?hg ?ho ?hn ?hr ?_; (case ho => rfl); (case hg => rfl); (case hn => rfl); (case hr => first | (go_simp; done) | (go_simp; rfl)); intro w33 hw; have hg : w31.grownBy w33 (some go17) := (by rw [hw]; exact HP32.2); have hp_ : Kd.R (Kd.int .i64) 3 w33 w.heap.size (fun k_ => some k_ ≠ (.slice Ao27 y362.length co27 : Value).ownBlock) (.slice (some ⟨go17, 0, none⟩) t365.length co29) y371 := (by rw [hw, Ny371.out]; exact HP32.1); clear HP32; have n0_ := Aside0.mk (Kd.R_after (v := (.slice (some ⟨go17, 0, none⟩) t365.length co29)) (v1 := (.slice (some ⟨go17, 0, none⟩) t365.length co29)) (ok := (fun _ => True)) (kr_ HO364.out) hg (.inl rfl)); have n1_ := Aside0.mk (hp_); have n2_ := Aside0.mk ((by rw [hw]; exact below_set (HB.out) GB17.out : Below w.heap.size w w33)); clear HO364; clear HO367; clear HB; have HO364 := n0_; have HO367 := n1_; have HB := n2_; clear n0_ n1_ n2_; clear hg hw hp_))
         go_ret2
         exact ⟨_, by first | rfl | (simp [errW_none, errW_some] <;> rfl) | (simp only [← hji14, ← hji19]; first | rfl | (simp [errW_none, errW_some] <;> rfl)) | (simp [*, errW_none, errW_some] <;> rfl), by (with_reducible repeat (first | apply Kd.R_alloc | apply Kd.R_drewN | apply Kd.R_drew)); exact Kd.R_mono HO367.out (fun _ hk => trivial), bl_ HB.out⟩
        ·rw [if_neg c21] at H
         exact absurd H (by simp)
       ·rw [if_neg c20] at H
        exact absurd H (by simp)
     ·rw [if_neg c16] at H
      exact absurd H (by simp)
    ·rw [if_neg c15] at H
     exact absurd H (by simp)
end Go.Proofs.Ytinnmloliknilab.PFnExactGlueEar
