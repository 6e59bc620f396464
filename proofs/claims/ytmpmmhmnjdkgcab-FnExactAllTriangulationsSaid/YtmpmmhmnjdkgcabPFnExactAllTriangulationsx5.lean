-- Written for this claim by a program of this session (wip/tools/xprint.py over the kit's printer, wip/tools/shrink.py).
import Derived.Test.YtmpmmhmnjdkgcabPFnExactAllTriangulationsx0
import Derived.Test.YtmpmmhmnjdkgcabPFnExactAllTriangulationsx4
namespace Go.Proofs.Ytmpmmhmnjdkgcab.PFnExactAllTriangulations
open Go.RowKit Go.Proofs.YtmpmmhmnjdkgcabW.PrintWords Go.Proofs.YtmpmmhmnjdkgcabW.PrintLast Go.Proofs.YtmpmmhmnjdkgcabW.PrintMore
attribute [local go_sem] max2_int min2_int max_two min_two max_three min_three max_four min_four   -- for this text's walks alone
set_option linter.unusedVariables false
set_option linter.unusedSimpArgs false
def impl_allTriangulations.x (d0 d1 e0 e1 : Int) : Bool := (decide (d0 < e0) && decide (e0 < d1) && decide (d1 < e1)) || (decide (e0 < d0) && decide (d0 < e1) && decide (e1 < d1))
theorem impl_allTriangulations.xf (d0 d1 e0 e1 : Int) : impl_doCross.f d0 d1 e0 e1 = some (impl_allTriangulations.x d0 d1 e0 e1) := by
 unfold impl_doCross.f impl_allTriangulations.x
 by_cases h1 : d0 < e0 <;> by_cases h2 : e0 < d1 <;> by_cases h3 : d1 < e1 <;> by_cases h4 : e0 < d0 <;> by_cases h5 : d0 < e1 <;> by_cases h6 : e1 < d1 <;> simp [h1, h2, h3, h4, h5, h6]
mutual
def impl_allTriangulations.grow : Nat → Int → List S54 → List S54 → Int → List (List S54) → Option (List (List S54))
 | 0, _, _, _, _, _ => none
 | k + 1, n, all, beg, from_, out => if (beg.length : Int) = wrap64 (n - 3) then (if out.length ≤ 1000000 then some (out ++ [beg]) else none) else impl_allTriangulations.loop k n all beg out from_
def impl_allTriangulations.loop : Nat → Int → List S54 → List S54 → List (List S54) → Int → Option (List (List S54))
 | 0, _, _, _, _, _ => none
 | k + 1, n, all, beg, out, x => if x < (all.length : Int) then (if 0 ≤ x then (if (beg.any fun e => impl_allTriangulations.x (rd_T54 all x).f0 (rd_T54 all x).f1 e.f0 e.f1) = true then impl_allTriangulations.loop k n all beg out (wrap64 (x + 1)) else ((impl_allTriangulations.grow k n all (beg ++ [rd_T54 all x]) (wrap64 (x + 1)) out).bind fun o => impl_allTriangulations.loop k n all beg o (wrap64 (x + 1)))) else none) else some out
end
def impl_allTriangulations.f (k : Nat) (a0 : Int) : Option (List (List S54)) := (impl_allDiagonals.f k a0).bind fun all => if 3 ≤ a0 ∧ a0 ≤ 1000 ∧ all.length ≤ 1000000 then impl_allTriangulations.grow k a0 all [] 0 [] else none
set_option maxHeartbeats 4000000 in
set_option maxRecDepth 100000 in
theorem impl_allTriangulations.clo (ga gi : Nat) (A1 : Option Addr) (c1 : Nat) (all : List S54) (x : Int) (y z : S54) (w : World) (hga : w.heap[ga]? = some (.cells #[.slice A1 all.length c1] 35 (0, 0))) (hgi : w.heap[gi]? = some (.cells #[.int .i64 x] 3 (0, 0))) (hr : Kd.C k54 w A1 all.length all) (h0 : 0 ≤ x) (hx : x < (all.length : Int)) (hy : rd_T54 all x = y) :
  Calls Try.prog 89 #[.agg #[.int .i64 z.f0, .int .i64 z.f1], .pointer (some ⟨ga, 0, none⟩), .pointer (some ⟨gi, 0, none⟩)] w fun e w' => e = .returned (.bool (impl_allTriangulations.x y.f0 y.f1 z.f0 z.f1)) ∧ Below w.heap.size w w' := by
 have hu := Try.underlying54; obtain ⟨ad, e1, hy0, hy1⟩ := at_T54 hr x h0 hx
 cases e1
 rw [hy] at hy0 hy1
 have ha := (blk_cell hga 0).trans (show #[Value.slice (some ad) all.length c1][0]? = some (.slice (some ad) all.length c1) from rfl)
 have hi := (blk_cell hgi 0).trans (show #[Value.int .i64 x][0]? = some (.int .i64 x) from rfl)
 have p1 := eq_true h0; have q1 := eq_true hx; clear hga hgi hr h0 hx hy
 go_enter Try.func89, Try.ntmps89
 go_wp2_with ((with_reducible refine gate_dst (N := 3) rfl ?_); refine box_event ?hg (N := 3) ?hd (cs := #[.int .i64 z.f0, .int .i64 z.f1]) (t := 54) ?hr ?_; (case hd => rfl); (case hg => rfl); (case hr => first | (go_simp; done) | (go_simp; rfl)); intro gb hgb w9 hbox hb; have HB9 := Aside0.mk hb; have hz0 : w9.cell? ⟨gb, 0, none⟩ = some (.int .i64 z.f0) := (blk_cell hbox 0).trans rfl; have hz1 : w9.cell? ⟨gb, 1, none⟩ = some (.int .i64 z.f1) := (blk_cell hbox 1).trans rfl; have ha9 := (hb.cell (World.block_lt_of_cell? w _ ha)).trans ha; have hi9 := (hb.cell (World.block_lt_of_cell? w _ hi)).trans hi; have hy90 := (hb.cell (World.block_lt_of_cell? w _ hy0)).trans hy0; have hy91 := (hb.cell (World.block_lt_of_cell? w _ hy1)).trans hy1; clear hgb hbox hb ha hi hy0 hy1)
 refine start_ (n := 7) (S := fun w' => w'.cell? ⟨ga, 0, none⟩ = some (.slice (some ad) all.length c1) ∧ w'.cell? ⟨gi, 0, none⟩ = some (.int .i64 x) ∧ w'.cell? (ad.add (x.toNat * 2)) = some (.int .i64 y.f0) ∧ w'.cell? ⟨(ad.add (x.toNat * 2)).block, (ad.add (x.toNat * 2)).off + 1, none⟩ = some (.int .i64 y.f1) ∧ w'.cell? ⟨gb, 0, none⟩ = some (.int .i64 z.f0) ∧ w'.cell? ⟨gb, 1, none⟩ = some (.int .i64 z.f1)) (ds := [5]) #[false, false, false, false, false, false, false] (by kernel_rfl) rfl rfl ⟨ha9, hi9, hy90, hy91, hz0, hz1⟩ (fun hHeld => ?_)
 refine take_ (i := 0) (N := some 5) (v := ?_) (a' := ?_) #[true, false, false, false, false, false, false] rfl rfl (by kernel_rfl) (fun _ _ _ h => h) (Or.inl ⟨by rfl, ?_⟩) hHeld ?_ ?_
 rotate_left
 ·rintro w' ⟨s0, s1, s2, s3, s4, s5⟩
  go_simp
  with_reducible rfl
 rotate_left
 ·simp only [Act.put, List.setIfInBounds_toArray, List.set_cons_zero, List.set_cons_succ, i64_w, i32_w]
  rfl
 refine take_ (i := 1) (N := some 6) (v := ?_) (a' := ?_) #[true, true, false, false, false, false, false] rfl rfl (by kernel_rfl) (fun _ _ _ h => h) (Or.inl ⟨by rfl, ?_⟩) hHeld ?_ ?_
 rotate_left
 ·rintro w' ⟨s0, s1, s2, s3, s4, s5⟩
  go_simp
  with_reducible rfl
 rotate_left
 ·simp only [Act.put, List.setIfInBounds_toArray, List.set_cons_zero, List.set_cons_succ, i64_w, i32_w]
  rfl
 refine pure_ (i := 2) (N := some 7) (v := ?_) (a' := ?_) #[true, true, true, false, false, false, false] rfl rfl (by kernel_rfl) (fun _ _ _ h => h) (Or.inl ⟨by rfl, ?_⟩) ?_ ?_
 rotate_left
 ·intro w'
  go_simp
  with_reducible rfl
 rotate_left
 ·simp only [Act.put, List.setIfInBounds_toArray, List.set_cons_zero, List.set_cons_succ, i64_w, i32_w]
  rfl
 refine take_ (i := 3) (N := some 8) (v := ?_) (a' := ?_) #[true, true, true, true, false, false, false] rfl rfl (by kernel_rfl) (fun _ _ _ h => h) (Or.inl ⟨by rfl, ?_⟩) hHeld ?_ ?_
 rotate_left
 ·rintro w' ⟨s0, s1, s2, s3, s4, s5⟩
  go_simp
  with_reducible rfl
 rotate_left
 ·simp only [Act.put, List.setIfInBounds_toArray, List.set_cons_zero, List.set_cons_succ, i64_w, i32_w]
  rfl
 refine take_ (i := 4) (N := some 9) (v := ?_) (a' := ?_) #[true, true, true, true, true, false, false] rfl rfl (by kernel_rfl) (fun _ _ _ h => h) (Or.inl ⟨by rfl, ?_⟩) hHeld ?_ ?_
 rotate_left
 ·rintro w' ⟨s0, s1, s2, s3, s4, s5⟩
  go_simp
  with_reducible rfl
 rotate_left
 ·simp only [Act.put, List.setIfInBounds_toArray, List.set_cons_zero, List.set_cons_succ, i64_w, i32_w]
  rfl
 refine last_ (i := 5) (N := some 10) #[true, true, true, true, true, true, false] rfl rfl (by kernel_rfl) (by decide) (fun K hK => ?_)
 refine goes_ Try.func55 (by kernel_rfl) rfl #[.agg #[.int .i64 y.f0, .int .i64 y.f1], .agg #[.int .i64 z.f0, .int .i64 z.f1]] (by rfl) rfl rfl (by (try simp only [List.map_toArray, List.map_cons, List.map_nil]); first | done | rfl) ?_
 refine (impl_doCross.calls y.f0 y.f1 z.f0 z.f1 _ _ (impl_allTriangulations.xf y.f0 y.f1 z.f0 z.f1)).mono ?_
 rintro e w10 ⟨rfl, hb2⟩
 have HB10 := Aside0.mk (below_step (below_drew1 HB9.out) hb2); refine ⟨_, rfl, ?_⟩; refine hK.out _ _ ?_; clear hK K; refine na_ (some 10) ?_; refine pure_ (i := 6) (N := some 4) (v := ?_) (a' := ?_) #[true, true, true, true, true, true, true] rfl rfl (by kernel_rfl) (fun _ _ _ h => h) (Or.inl ⟨by rfl, ?_⟩) ?_ ?_
 rotate_left
 ·intro w'
  go_simp
  with_reducible rfl
 rotate_left
 ·simp only [Act.put, List.setIfInBounds_toArray, List.set_cons_zero, List.set_cons_succ, i64_w, i32_w]
  rfl
 refine done_ (by kernel_rfl) ?_
 try go_wp2
 go_ret
 exact ⟨rfl, HB10.out⟩
set_option maxHeartbeats 4000000 in
set_option maxRecDepth 100000 in
theorem impl_allTriangulations.idx (ga gi : Nat) (A1 : Option Addr) (c1 : Nat) (all : List S54) (x : Int) (y : S54) (A2 : Option Addr) (c2 : Nat) (beg : List S54) (w : World) (hga : w.heap[ga]? = some (.cells #[.slice A1 all.length c1] 35 (0, 0))) (hgi : w.heap[gi]? = some (.cells #[.int .i64 x] 3 (0, 0))) (hr : Kd.C k54 w A1 all.length all) (h0 : 0 ≤ x) (hx : x < (all.length : Int)) (hy : rd_T54 all x = y)
  (hr2 : Kd.C k54 w A2 beg.length beg) (hc2 : beg.length ≤ c2) (hl : beg.length ≤ 1000000) :
  Calls Try.prog 84 #[.slice A2 beg.length c2, .func (.func 89) #[] #[.pointer (some ⟨ga, 0, none⟩), .pointer (some ⟨gi, 0, none⟩)]] w fun e w' => (∃ i : Int, e = .returned (.int .i64 i) ∧ (0 ≤ i ↔ (beg.any fun e => impl_allTriangulations.x y.f0 y.f1 e.f0 e.f1) = true)) ∧ Below w.heap.size w w' := by
 have hu := Try.underlying54; have HR0 := Aside0.mk hr2; have HC0 := Aside0.mk hc2; have HGA := Aside0.mk hga; have HGI := Aside0.mk hgi; have HRA := Aside0.mk hr; have HX := Aside0.mk (And.intro h0 hx); have HY := Aside0.mk hy; clear hr2 hc2 hga hgi hr h0 hx hy; have HB := Aside0.mk (Below.refl w.heap.size w)
 have HL : ∀ j : Int, 0 ≤ j → j < (beg.length : Int) → (beg.take (j.toNat + 1)).any (fun e => impl_allTriangulations.x y.f0 y.f1 e.f0 e.f1) = ((beg.take j.toNat).any (fun e => impl_allTriangulations.x y.f0 y.f1 e.f0 e.f1) || impl_allTriangulations.x y.f0 y.f1 (rd_T54 beg j).f0 (rd_T54 beg j).f1) := by
  intro j hj0 hj
  have h1 : beg[j.toNat]? = some (rd_T54 beg j) := by
   have : j.toNat < beg.length := by omega
   simp [rd_T54, this]
  rw [List.take_add_one, h1, List.any_append]
  simp
 go_enter Try.func84, Try.ntmps84
 go_wp2
 go_loopg [8] (beg.length + 1) (fun kq v8 w' => ∃ (j : Int), v8 = .int .i64 j ∧ Aside0 (0 ≤ j ∧ (kq : Int) + j = beg.length + 1) ∧ Aside0 ((beg.take j.toNat).any (fun e => impl_allTriangulations.x y.f0 y.f1 e.f0 e.f1) = false) ∧ Aside0 (Below w.heap.size w w'))
 case atStart => exact ⟨0, rfl, ⟨by omega⟩, ⟨by simp⟩, HB⟩
 case round =>
  clear HB; obtain ⟨j, rfl, HK, HN, HB⟩ := hrel
  by_cases c4 : j < (beg.length : Int)
  ·have c4b0 : decide (j < (beg.length : Int)) = true := decide_eq_true c4
   have p1 : 0 ≤ j := HK.out.1; obtain ⟨ad, e1, hx0, hx1⟩ := at_T54 HR0.out j p1 c4
   cases e1
   replace hx0 := (HB.out.cell (World.block_lt_of_cell? w _ hx0)).trans hx0; replace hx1 := (HB.out.cell (World.block_lt_of_cell? w _ hx1)).trans hx1; have h3 := HL j p1 c4; have h4 : wrap64 (j + 1) = j + 1 := by simp only [wrap64]; omega
   replace p1 := eq_true p1; have q1 := eq_true c4; have HC := Aside0.mk (impl_allTriangulations.clo ga gi A1 c1 all x y (rd_T54 beg j) wr (blk_below HGA.out HB.out) (blk_below HGI.out HB.out) (Kd.C_below HRA.out HB.out) HX.out.1 HX.out.2 HY.out)
   cases hP : impl_allTriangulations.x y.f0 y.f1 (rd_T54 beg j).f0 (rd_T54 beg j).f1 with
   | true =>
    go_wp2_with (go_at_call 89; refine HC.out.mono ?_; rw [hP]; rintro e w10 ⟨rfl, hb2⟩; have HB10 := Aside0.mk (below_step HB.out hb2))
    go_ret
    exact ⟨⟨_, rfl, ⟨fun _ => by rw [← List.take_append_drop (j.toNat + 1) beg, List.any_append, h3, hP]; simp, fun _ => HK.out.1⟩⟩, HB10.out⟩
   | false =>
    go_wp2_with (go_at_call 89; refine HC.out.mono ?_; rw [hP]; rintro e w10 ⟨rfl, hb2⟩; have HB10 := Aside0.mk (below_step HB.out hb2))
    go_roundg (gk - 1)
    case measure => have := HK.out; omega
    case rel => exact ⟨j + 1, by first | rfl | (simp only [i64_w, h4]; done) | (simp [h4]; done), ⟨by have := HK.out; omega⟩, ⟨by rw [show (j + 1).toNat = j.toNat + 1 by have := HK.out; omega, h3, HN.out, hP]; rfl⟩, HB10⟩
  ·have c4b0 : decide (j < (beg.length : Int)) = false := decide_eq_false c4
   go_wp2
   go_ret
   have h2 := HN.out; rw [List.take_of_length_le (by omega)] at h2
   exact ⟨⟨-1, rfl, Iff.intro (fun h => absurd h (by decide)) (fun h => by first | (rw [h] at h2; cases h2; done) | (rw [List.any_eq_true.mpr h] at h2; cases h2))⟩, HB.out⟩
set_option maxHeartbeats 4000000 in
set_option maxRecDepth 100000 in
theorem impl_allTriangulations.con (ga gi : Nat) (A1 : Option Addr) (c1 : Nat) (all : List S54) (x : Int) (y : S54) (A2 : Option Addr) (c2 : Nat) (beg : List S54) (w : World) (hga : w.heap[ga]? = some (.cells #[.slice A1 all.length c1] 35 (0, 0))) (hgi : w.heap[gi]? = some (.cells #[.int .i64 x] 3 (0, 0))) (hr : Kd.C k54 w A1 all.length all) (h0 : 0 ≤ x) (hx : x < (all.length : Int)) (hy : rd_T54 all x = y)
  (hr2 : Kd.C k54 w A2 beg.length beg) (hc2 : beg.length ≤ c2) (hl : beg.length ≤ 1000000) :
  Calls Try.prog 53 #[.slice A2 beg.length c2, .func (.func 89) #[] #[.pointer (some ⟨ga, 0, none⟩), .pointer (some ⟨gi, 0, none⟩)]] w fun e w' => e = .returned (.bool (beg.any fun e => impl_allTriangulations.x y.f0 y.f1 e.f0 e.f1)) ∧ Below w.heap.size w w' := by
 have HI0 := Aside0.mk (impl_allTriangulations.idx ga gi A1 c1 all x y A2 c2 beg w hga hgi hr h0 hx hy hr2 hc2 hl); clear hga hgi hr h0 hx hy hr2 hc2 hl
 go_enter Try.func53, Try.ntmps53
 go_wp2_with (go_at_call 84; refine HI0.out.mono ?_; rintro e w10 ⟨⟨i, rfl, hi0⟩, hb2⟩; have HI := Aside0.mk hi0; clear hi0; have HB10 := Aside0.mk hb2)
 go_ret
 have hi1 := HI.out; have h9 : decide (0 ≤ i) = (beg.any fun e => impl_allTriangulations.x y.f0 y.f1 e.f0 e.f1) := by rw [Bool.eq_iff_iff, decide_eq_true_iff]; exact hi1
 exact ⟨by rw [← h9]; rfl, HB10.out⟩
set_option maxHeartbeats 4000000 in
set_option maxRecDepth 100000 in
theorem impl_allTriangulations.del (A2 : Option Addr) (c2 : Nat) (beg : List S54) (w : World) (hr2 : Kd.C k54 w A2 beg.length beg) (hc2 : beg.length ≤ c2) (hl : beg.length ≤ 1000000) :
  Calls Try.prog 88 #[.slice A2 beg.length c2] w fun e w' => ∃ v0_ : Value, e = .returned v0_ ∧ Kd.R k54 54 w' w.heap.size (fun _ => True) v0_ beg ∧ Below w.heap.size w w' := by
 have hu := Try.underlying54; have q : ∀ (w : World) (a : Option Addr) (n c n' c' : Nat), (binOp .eql 35 (.slice a n c) (.slice none n' c')).run Try.prog w = .ok (.bool a.isNone) w := fun w a n c n' c' => Lib.run_eql_slice_nil w _ _ a n c n' c' Try.underlying35
 have HR := Aside0.mk hr2; have HL := Aside0.mk hl
 cases A2 with
 | none =>
  have hb0 : beg = [] := by
   rcases Nat.eq_zero_or_pos beg.length with h | h
   ·exact List.length_eq_zero_iff.1 h
   ·obtain ⟨ad, e, _⟩ := hr2.2.2 h; cases e
  subst hb0; clear hr2 hc2 hl
  go_enter Try.func88, Try.ntmps88
  go_wp2
  go_ret
  exact ⟨_, rfl, Kd.R_nil _ _ _ _ _, Below.refl _ _⟩
 | some ad =>
  clear hr2 hc2 hl
  go_enter Try.func88, Try.ntmps88
  go_wp2_with (first | ((with_reducible refine gate_dst (N := 5) rfl ?_); refine Kd.R_lit k54 (w0 := w) w.heap.size 54 ?hg (N := 5) ?hd (xs := ([] : List S54)) (inner := []) (ok := fun _ => True) (okp := fun _ => True) ?hr ?hp (fun _ hk => hk) trivial (Below.refl _ _) (Nat.le_refl _) (by simp) ?_; (case hd => rfl); (case hg => rfl); (case hr => first | (go_simp; done) | (go_simp; rfl)); (case hp => exact (Reps.none _ _)); intro v2 w2 ho hb hg_ hn_; have HO2 := Aside0.mk ho; have HB2 := Aside0.mk hb; clear ho hb hg_ hn_) | ((with_reducible refine gate_builtin (b := .append) (xs := #[.tmp 5, .tmp 6]) rfl ?_); at_builtin; refine Kd.R_append_rows k54 (Rr := k54.K w2) (w0 := w) w.heap.size rfl (.tmp 5) (.tmp 6) 35 54 (.agg #[.int .i64 0, .int .i64 0]) 16 rfl Try.underlying35 info54 rfl (by decide) (by decide) v2 [] beg (some ad) beg.length c2 (fun _ => True) (fun _ => False) rfl rfl HO2.out (Kd.C_below HR.out HB2.out) (fun x cs h => by rw [k54_open h]; exact k54_mkM _ _ _ _) (fun _ hk => hk.elim) (fun _ _ => trivial) HB2.out HB2.out.size (by simp only [List.length_nil]; have := HL.out; omega) ?_; intro v3 w3 ho3 hb3 hg3 hat3; have HO3 := Aside0.mk ho3; have HB3 := Aside0.mk hb3; clear ho3 hb3 hg3 hat3))
  go_ret
  exact ⟨_, rfl, by have h_ := HO3.out; rwa [List.nil_append] at h_, HB3.out⟩
def impl_allTriangulations.bx (gn gb ga gg : Nat) (n : Int) (A1 : Option Addr) (c1 : Nat) (all : List S54) (W : World) : Prop :=
 W.heap[gn]? = some (.cells #[.int .i64 n] 3 (0, 0)) ∧ W.heap[ga]? = some (.cells #[.slice A1 all.length c1] 35 (0, 0)) ∧ W.heap[gg]? = some (.cells #[.func (.func 87) #[] #[.pointer (some ⟨gn, 0, none⟩), .pointer (some ⟨gb, 0, none⟩), .pointer (some ⟨ga, 0, none⟩), .pointer (some ⟨gg, 0, none⟩)]] 78 (0, 0)) ∧ Kd.C k54 W A1 all.length all
theorem impl_allTriangulations.cap {P : Program} {ops : Array Oper} {o : Oper} {a : Act} {Q : Exit → Act → World → Prop} {Kc : Act → World → Prop} {W : World} (hw : Region.wanted o (yielded ops a.tmps) = true) (s x : Operand) (t e : TypeId)
  (ho : o.op = .call { callee := .builtin .append, args := #[s, x], argTypes := #[t, t] })
  (ht : P.underlying t = some (.slice e)) (hinfo : (P.info? e).map (fun i => (i.zero, i.size, i.bytes)) = some (some (.agg #[.int .i64 0, .int .i64 0]), 2, 16))
  (A : Option Addr) (xs : List S54) (y : S54) (hs : a.eval s = .slice A xs.length xs.length) (hC : Kd.C k54 W A xs.length xs) (A2 : Option Addr) (c : Nat) (hx : a.eval x = .slice A2 1 c) (hY : Kd.C k54 W A2 1 [y]) (hl : xs.length ≤ 1000000)
  (h : ∀ v1 w1, Kd.R k54 e w1 W.heap.size (fun _ => True) v1 (xs ++ [y]) → Below W.heap.size W w1 → Kc (a.put o.dst v1) w1) :
  if Region.wanted o (yielded ops a.tmps) = true then Oper.wp P o a W Kc Q else Kc (a.put o.dst undef) W := by
 cases A with
 | none =>
  have hx0 : xs = [] := by
   rcases Nat.eq_zero_or_pos xs.length with h | h
   ·exact List.length_eq_zero_iff.1 h
   ·obtain ⟨ad, e, _⟩ := hC.2.2 h; cases e
  subst hx0; exact Kd.R_append_rows_step k54 (Rr := k54.K W) (w0 := W) W.heap.size hw s x t e _ 16 ho ht hinfo rfl (by decide) (by decide) (.slice none 0 0) [] [y] A2 1 c (fun _ => True) (fun _ => False) hs hx (Kd.R_nil _ _ _ _ _) hY (fun x cs h => by rw [k54_open h]; exact k54_mkM _ _ _ _) (fun _ hk => hk.elim) (fun _ _ => trivial) (Below.refl _ _) (Nat.le_refl _) (by simp) (fun v1 w1 ho hb _ _ => h v1 w1 ho hb)
 | some b =>
  obtain ⟨ad, e2, _⟩ := hY.2.2 (by decide)
  subst e2; obtain ⟨i0, hi, hzz⟩ := Option.map_eq_some_iff.1 hinfo
  simp only [Prod.mk.injEq] at hzz
  obtain ⟨hz0, hz1, hz2⟩ := hzz; obtain ⟨olds, hor, hoc⟩ := ReadsRow.inner_ hC; obtain ⟨news, hnr, hnc⟩ := ReadsRow.inner_ hY; obtain ⟨v1, w1, hrun, hown, hg⟩ := run_append_arg_grows (P := P) (w := W) t o.type e i0 _ 2 16 ht hi hz0 hz1 hz2 rfl (by decide) b xs.length xs.length olds hor.1 hoc ad 1 c news hnr.1 hnc (by omega) (by simp only [maxLen]; omega) (by omega)
  have hb : Below W.heap.size W w1 := (Below.refl W.heap.size W).grown hg (by simp) (fun k hk => by simp at hk)
  rw [if_pos hw]
  unfold Oper.wp
  simp [execOp, ho, resolve, invoke, builtin, hs, hx, hrun, Result.andThen]
  refine h v1 w1 ⟨fun _ _ => trivial, olds ++ news, ?_, Kd.reps_append (hor.imp_ (fun p c h => by rw [k54_open h]; exact k54_mkM _ _ _ _)) (hnr.imp_ (fun p c h => by rw [k54_open h]; exact k54_mkM _ _ _ _))⟩ hb
  rw [List.length_append, List.length_singleton]; exact hown
theorem impl_allTriangulations.cut {P : Program} (t e : TypeId) (ht : P.underlying t = some (.slice e)) (hinfo : (P.info? e).map (fun i => (i.zero, i.size, i.bytes)) = some (some (.agg #[.int .i64 0, .int .i64 0]), 2, 16)) (A : Option Addr) (n c : Nat) (hc : n ≤ c) (W : World) :
  (Instr.slice t (.slice A n c) none (some (.int .i64 (n : Int))) (some (.int .i64 (n : Int)))).run P W = .ok (.slice A n n) W := by
 obtain ⟨i, hi, hz⟩ := Option.map_eq_some_iff.1 hinfo
 simp only [Prod.mk.injEq] at hz
 have hel : P.elem t = e := by simp [Program.elem, ht]
 have hu : P.underlying t = some (.slice (P.elem t)) := by rw [hel]; exact ht
 have ha : (A.map fun x => x.add 0) = A := by cases A <;> simp [Addr.add]
 rw [run_slice_hm W t A n c hu .i64 .i64 (n : Int) (n : Int) (by omega) (by omega) (by omega), hel]
 simp [sizeOf, typeInfo, hi, hz.2.1, sliced, Result.andThen, ha]
theorem impl_allTriangulations.goesF {P : Program} {ops : Array Oper} {Q : Exit → Act → World → Prop} {oi : Oper} {N : Option Tmp} {a : Act} {w : World} {K : Act → World → Prop} {f : FuncId} {fr : Array Value} (x : Operand) (hx : a.eval x = .func (.func f) #[] fr) {fn : Func} {az : Array Operand} {ts : Array TypeId} (hf : P.funcs[f]? = some fn) (hname : (fn.name == "runtime.NumGoroutine") = false) (hb : fn.body.isSome = true) (args : Array Value)
  (hw : Region.wanted oi (yielded ops a.tmps) = true) (hN : oi.dst = N) (hop : oi.op = .call { callee := .value x, args := az, argTypes := ts }) (hargs : az.map a.eval ++ fr = args)
  (h : Calls P f args w fun e w' => ∃ v, e = .returned v ∧ K (a.put N v) w') : if Region.wanted oi (yielded ops a.tmps) = true then Oper.wp P oi a w K Q else K (a.put N undef) w := by
 refine call_ f args hw hN ?_ h; have he := enters_ hf hname hb args w
 unfold execOp
 simp [hop, resolve, Deferred.ofValue, invoke, hx, hargs, he]
set_option maxHeartbeats 8000000 in
set_option maxRecDepth 100000 in
theorem impl_allTriangulations.gr : ∀ (k : Nat) (n : Int) (A1 : Option Addr) (c1 : Nat) (all : List S54) (A2 : Option Addr) (c2 : Nat) (beg : List S54) (fr : Int) (gn gb ga gg : Nat) (v : Value) (outs r : List (List S54)) (w0 w : World), 3 ≤ n → n ≤ 1000 → all.length ≤ 1000000 → (beg.length : Int) ≤ n - 3 → Below w0.heap.size w0 w → w0.heap.size ≤ gb →
  w.heap[gb]? = some (.cells #[v] 39 (0, 0)) → Kd.S (Kd.slice 54 k54) 35 w w0.heap.size (fun k_ => k_ ≠ gb) v outs →
  (∀ W' : World, Kept w W' (fun k_ => k_ = gb ∨ some k_ = v.ownBlock) → impl_allTriangulations.bx gn gb ga gg n A1 c1 all W') → all.length ≤ c1 →
  (∀ W' : World, Kept w W' (fun k_ => k_ = gb ∨ some k_ = v.ownBlock) → Kd.C k54 W' A2 beg.length beg) → beg.length ≤ c2 → impl_allTriangulations.grow k n all beg fr outs = some r →
  Calls Try.prog 87 #[.slice A2 beg.length c2, .int .i64 fr, .pointer (some ⟨gn, 0, none⟩), .pointer (some ⟨gb, 0, none⟩), .pointer (some ⟨ga, 0, none⟩), .pointer (some ⟨gg, 0, none⟩)] w fun e w' => e = .returned (.tuple #[]) ∧ ∃ v' : Value, w'.heap[gb]? = some (.cells #[v'] 39 (0, 0)) ∧ Kd.S (Kd.slice 54 k54) 35 w' w0.heap.size (fun k_ => k_ ≠ gb) v' r ∧ (v'.ownBlock = v.ownBlock ∨ ∃ b, v'.ownBlock = some b ∧ w.heap.size ≤ b) ∧ Below w0.heap.size w0 w' ∧ Kept w w' (fun k_ => k_ = gb ∨ some k_ = v.ownBlock) := by
 intro k
 induction k using Nat.strongRecOn with
 | ind k IH =>
 intro n A1 c1 all A2 c2 beg fr gn gb ga gg v outs r w0 w hn3 hn hal hbl hB hgb hx ho hbx hc1 hr2 hc2 h; have hu := Try.underlying54
 cases k with
 | zero => simp [impl_allTriangulations.grow] at h
 | succ k =>
 simp only [impl_allTriangulations.grow] at h
 have hk0 : Kept w w (fun k_ => k_ = gb ∨ some k_ = v.ownBlock) := ⟨Nat.le_refl _, fun _ _ _ => rfl⟩
 have hcn : w.cell? ⟨gn, 0, none⟩ = some (.int .i64 n) := (blk_cell (hbx w hk0).1 0).trans rfl
 by_cases hc : (beg.length : Int) = wrap64 (n - 3)
 ·rw [if_pos hc] at h
  by_cases hlo : outs.length ≤ 1000000
  case neg => rw [if_neg hlo] at h; cases h
  rw [if_pos hlo] at h
  obtain rfl := Option.some.inj h; have hcell : w.cell? ⟨gb, 0, none⟩ = some v := (blk_cell hx 0).trans rfl; have HG := Aside0.mk (blk_lt hx); have HC2 := Aside0.mk (hr2 w hk0); have HCC := Aside0.mk hc2; have HL2 := Aside0.mk (show beg.length ≤ 1000 by have h9 : wrap64 (n - 3) = n - 3 := (by simp only [wrap64]; omega); omega)
  have HLo := Aside0.mk hlo; have HO := Aside0.mk (Kd.S_mono (Kd.S_bound ho) (ok' := fun k_ => k_ ≠ gb ∧ k_ < w.heap.size) (fun k_ hk => ⟨hk.1, hk.2.2.1⟩))
  have HB := Aside0.mk hB; have HX := Aside0.mk hx; have HGB := Aside0.mk hgb; have hw3 : wrap64 (n - 3) = n - 3 := by simp only [wrap64]; omega
  rw [hw3] at hc
  have c2_ : ((beg.length : Int) == n - 3) = true := beq_iff_eq.2 hc; clear hr2 hbx hB hx ho hlo IH hc hc2 hk0
  go_enter Try.func87, Try.ntmps87
  go_wp2
  refine start_ (n := 6) (S := fun w' => w'.cell? ⟨gb, 0, none⟩ = some v) (ds := [5]) #[false, false, false, false, false, false] (by kernel_rfl) rfl rfl hcell (fun hHeld => ?_)
  refine pure_ (i := 1) (N := some 15) (v := ?_) (a' := ?_) #[false, true, false, false, false, false] rfl rfl (by kernel_rfl) (fun _ _ _ h => h) (Or.inl ⟨by rfl, ?_⟩) ?_ ?_
  rotate_left
  ·intro w'
   go_simp
   with_reducible rfl
  rotate_left
  ·simp only [Act.put, List.setIfInBounds_toArray, List.set_cons_zero, List.set_cons_succ, i64_w, i32_w]
   rfl
  refine take_ (i := 0) (N := some 14) (v := ?_) (a' := ?_) #[true, true, false, false, false, false] rfl rfl (by kernel_rfl) (fun _ _ _ h => h) (Or.inl ⟨by rfl, ?_⟩) hHeld ?_ ?_
  rotate_left
  ·rintro w' s0
   go_simp
   with_reducible rfl
  rotate_left
  ·simp only [Act.put, List.setIfInBounds_toArray, List.set_cons_zero, List.set_cons_succ, i64_w, i32_w]
   rfl
  refine one_ (i := 2) (N := some 16) #[true, true, true, false, false, false] rfl rfl (by kernel_rfl) (by decide) (fun K hK => ?_)
  refine goes_ Try.func88 (by kernel_rfl) rfl #[.slice A2 beg.length c2] (by rfl) rfl rfl (by (try simp only [List.map_toArray, List.map_cons, List.map_nil]); first | done | rfl) ?_
  refine (impl_allTriangulations.del A2 c2 beg w.drew (Kd.C_below HC2.out (below_drew1 (Below.refl _ _))) HCC.out (by have := HL2.out; omega)).mono ?_
  rintro e w6 ⟨v6, rfl, ho6d, hb6d⟩
  have ho6 : Kd.R k54 54 w6 w.heap.size (fun _ => True) v6 beg := ho6d
  clear ho6d; have hb6 : Below w.heap.size w w6 := below_step (below_drew1 (Below.refl _ _)) hb6d; obtain ⟨A6, c6, e6⟩ := Kd.R_slice ho6; subst e6; have hc6 : w6.cell? ⟨gb, 0, none⟩ = some v := (hb6.cell (World.block_lt_of_cell? w _ hcell)).trans hcell; refine ⟨_, rfl, ?_⟩; refine hK.out _ _ hc6 (fun hHeld => ?_)
  clear hK K; refine na_ (some 16) ?_; refine one_ (i := 3) (N := some 17) #[true, true, true, true, false, false] rfl rfl (by kernel_rfl) (by decide) (fun K hK => ?_)
  refine value_ (w1 := w6.alloc (.cells #[.slice A6 beg.length c6] 35)) (v := .slice (some ⟨w6.heap.size, 0, none⟩) 1 1) (by rfl) rfl ?hrun ?hk
  case hrun => first | (go_simp; done) | (go_simp; rfl)
  refine hK.out _ _ (((below_alloc (Below.refl w6.heap.size w6) _).cell (World.block_lt_of_cell? _ _ hc6)).trans hc6) (fun hHeld => ?_)
  clear hK K; refine na_ (some 17) ?_; refine one_ (i := 4) (N := some 18) #[true, true, true, true, true, false] rfl rfl (by kernel_rfl) (by decide) (fun K hK => ?_)
  have hS6 := Kd.S_below HO.out hb6; refine Kd.S_append_step (Kd.slice 54 k54) (w0 := w0) w0.heap.size (by rfl) (.tmp 14) (.tmp 17) 39 35 (.slice none 0 0) 24 rfl Try.underlying39 info35 rfl (by decide) (by decide) v outs beg [.slice A6 beg.length c6] (fun k_ => k_ ≠ gb) (fun k_ => w.heap.size ≤ k_) rfl rfl ⟨_, rfl, Kd.R_lower (Kd.R_mono (Kd.R_bound ho6) (fun k_ hk => hk.2.1)) HB.out.size⟩ (fun k_ hk => ⟨fun e => by have := HG.out; omega, fun e => by have := Kd.S_lt HO.out k_ e.symm; omega⟩) (fun k_ hk => fun e => by have := HG.out; have := hb6.size; omega) (Kd.S_mono hS6 (fun k_ hk => ⟨hk.1, fun h => by have := hk.2; omega⟩)) (below_step HB.out hb6) (Nat.le_trans HB.out.size hb6.size) (by have := HLo.out; omega) ?_
  intro v8 w8 ho8 hb8 hg8 hat8; obtain ⟨A8, c8, e8⟩ := Kd.S_slice ho8; subst e8; have hgv : some gb ≠ v.ownBlock := Kd.S_away HO.out (fun k_ hk => hk.1)
  have hx8 : w8.heap[gb]? = some (.cells #[v] 39 (0, 0)) := (hg8.block gb (Nat.lt_of_lt_of_le HG.out hb6.size) hgv).trans (blk_below HX.out hb6); have hc8 : w8.cell? ⟨gb, 0, none⟩ = some v := (blk_cell hx8 0).trans rfl; have hf8 := blk_frozen hx8 0; refine hK.out _ _ hc8 (fun hHeld => ?_)
  clear hK K; refine na_ (some 18) ?_; refine last_ (i := 5) (N := none) #[true, true, true, true, true, true] rfl rfl (by kernel_rfl) (by decide) (fun K hK => ?_)
  refine skip_ (w1 := w8.setCell ⟨gb, 0, none⟩ (.slice A8 (outs ++ [beg]).length c8)) (by rfl) rfl ?hrun2 ?hk2
  case hrun2 => first | (go_simp; done) | (go_simp; rfl)
  refine hK.out _ _ ?_; clear hK K; refine done_ (by kernel_rfl) ?_
  try go_wp2
  (try simp only [Exit.inBlock, Exit.then]); refine bodyPost_ret (results_none rfl _ _ _) rfl ?_
  refine ⟨rfl, .slice A8 (outs ++ [beg]).length c8, blk_put (cs := #[v]) hx8 0 _ rfl, Kd.S_far (p := ⟨gb, 0, none⟩) ho8 (fun k_ hk => hk) _, hat8.imp id (fun ⟨b, h1, h2⟩ => ⟨b, h1, Nat.le_trans hb6.size h2⟩), below_set hb8 HGB.out, ?_, fun i hi hni => ?_⟩
  ·rw [show ∀ (W : World) (p : Addr) (u : Value), (W.setCell p u).heap.size = W.heap.size from fun W p u => by simp [World.setCell]]; exact Nat.le_trans hb6.size hg8.size
  ·exact (Below.heap_setCell w8 ⟨gb, 0, none⟩ _ i (fun e => hni (.inl e))).trans ((hg8.block i (Nat.lt_of_lt_of_le hi hb6.size) (fun e => hni (.inr e))).trans (hb6.block i hi))
 ·rw [if_neg hc] at h
  have hw3 : wrap64 (n - 3) = n - 3 := by simp only [wrap64]; omega
  rw [hw3] at hc
  have c2_ : ((beg.length : Int) == n - 3) = false := beq_eq_false_iff_ne.2 hc; have HG := Aside0.mk (blk_lt hx); have H1 := Aside0.mk hbx; have H2 := Aside0.mk hr2; have HC1 := Aside0.mk hc1; have HC2 := Aside0.mk hc2; have HAL := Aside0.mk hal; have HN := Aside0.mk (And.intro hn3 hn); have HBL := Aside0.mk (And.intro hbl hc); have HGB := Aside0.mk hgb; have H' := Aside0.mk h; have HX := Aside0.mk hx; have HO := Aside0.mk ho; have HB := Aside0.mk hB; have HK := Aside0.mk hk0; have HIH := Aside0.mk IH; clear hw3 hc hbl h hx hbx hr2 hc1 hc2 hal hgb ho hB hk0 IH
  go_enter Try.func87, Try.ntmps87
  go_wp2_with ((with_reducible refine gate_dst (N := 8) rfl ?_); refine box_event ?hg (N := 8) ?hd (cs := #[.int .i64 0]) (t := 3) ?hr ?_; (case hd => rfl); (case hg => rfl); (case hr => first | (go_simp; done) | (go_simp; rfl)); intro gi hgi w9 hbox hb; have BK := Aside0.mk hbox; have HB9 := Aside0.mk hb; have HGI := Aside0.mk (Nat.le_of_eq hgi.symm); clear hb hbox hgi; have hcz0 : w9.cell? ⟨gi, 0, none⟩ = some (.int .i64 0) := (blk_cell BK.out 0).trans rfl; have hfz0 := blk_frozen BK.out 0)
  clear c2_ hn3 hn hcn
  go_loopg [8] k (fun kq v8 w' => ∃ (gj : Nat) (x8 : Int) (v1 : Value) (o1 : List (List S54)), v8 = .pointer (some ⟨gj, 0, none⟩) ∧ Aside0 (w'.heap[gj]? = some (.cells #[.int .i64 x8] 3 (0, 0))) ∧ Aside0 (w.heap.size ≤ gj ∧ some gj ≠ v1.ownBlock) ∧ Aside0 (impl_allTriangulations.loop kq n all beg o1 x8 = some r) ∧ Aside0 (kq ≤ k) ∧ Aside0 (w'.heap[gb]? = some (.cells #[v1] 39 (0, 0))) ∧ Aside0 (Kd.S (Kd.slice 54 k54) 35 w' w0.heap.size (fun k_ => k_ ≠ gb) v1 o1) ∧ Aside0 (v1.ownBlock = v.ownBlock ∨ ∃ b, v1.ownBlock = some b ∧ w.heap.size ≤ b) ∧ Aside0 (Below w0.heap.size w0 w') ∧ Aside0 (Kept w w' (fun k_ => k_ = gb ∨ some k_ = v.ownBlock)))
  case atStart =>
   have hB5 : Below w.heap.size w (w9.setCell ⟨gi, 0, none⟩ (.int .i64 fr)) := below_set HB9.out HGI.out; exact ⟨gi, fr, v, outs, rfl, ⟨blk_put (cs := #[.int .i64 0]) BK.out 0 _ rfl⟩, ⟨HGI.out, fun e => by have := Kd.S_lt HO.out gi e.symm; have := HGI.out; omega⟩, H', ⟨Nat.le_refl _⟩, ⟨blk_below HX.out hB5⟩, ⟨Kd.S_below HO.out hB5⟩, ⟨.inl rfl⟩, ⟨below_step HB.out hB5⟩, ⟨⟨hB5.size, fun i hi _ => hB5.block i hi⟩⟩⟩
  case round =>
   clear H' HX HO HB HK BK HB9 HGI hcz0 hfz0; obtain ⟨gj, x8, v1, o1, rfl, HJ, HGJ, HA, HK1, HX, HO, HV, HB, HK⟩ := hrel; obtain ⟨hbn, hba, hbg, hbr⟩ := H1.out wr HK.out; have hcj : wr.cell? ⟨gj, 0, none⟩ = some (.int .i64 x8) := (blk_cell HJ.out 0).trans rfl; have hca : wr.cell? ⟨ga, 0, none⟩ = some (.slice A1 all.length c1) := (blk_cell hba 0).trans rfl
   cases gk with
   | zero => exact absurd HA.out (by simp [impl_allTriangulations.loop])
   | succ k1 =>
    have H := HA.out; clear HA
    simp only [impl_allTriangulations.loop] at H
    by_cases c3 : x8 < (all.length : Int)
    ·rw [if_pos c3] at H
     by_cases c4 : 0 ≤ x8
     case neg => rw [if_neg c4] at H; cases H
     rw [if_pos c4] at H
     have c3b0 : decide (x8 < (all.length : Int)) = true := decide_eq_true c3; obtain ⟨ad, e1, hy0, hy1⟩ := at_T54 hbr x8 c4 c3
     cases e1
     obtain ⟨y, hy⟩ : ∃ y, rd_T54 all x8 = y := ⟨_, rfl⟩; have HC := Aside0.mk (impl_allTriangulations.con ga gj (some ad) c1 all x8 y A2 c2 beg wr hba HJ.out hbr c4 c3 hy (H2.out wr HK.out) HC2.out (by have := HBL.out; have := HN.out; omega))
     rw [hy] at H hy0 hy1
     have h4 : wrap64 (x8 + 1) = x8 + 1 := by have := HAL.out; simp only [wrap64]; omega
     cases hany : beg.any fun e => impl_allTriangulations.x y.f0 y.f1 e.f0 e.f1 with
     | true =>
      rw [hany, if_pos rfl] at H
      have HA := Aside0.mk H; clear H hy hbn hba hbg hbr hy0 hy1
      go_wp2_with (first | (go_at_call 53; refine HC.out.mono ?_; rw [hany]; rintro e w10 ⟨rfl, hb2⟩; have HB10 := Aside0.mk hb2; clear hb2; have hcj10 := (HB10.out.cell (World.block_lt_of_cell? wr _ hcj)).trans hcj) | ((with_reducible refine gate_dst (N := 8) rfl ?_); refine box_event ?hg (N := 8) ?hd (cs := #[.int .i64 0]) (t := 3) ?hr ?_; (case hd => rfl); (case hg => rfl); (case hr => first | (go_simp; done) | (go_simp; rfl)); intro gl hgl wl hbox hb; have BK := Aside0.mk hbox; have HBl := Aside0.mk hb; have HGL := Aside0.mk (Nat.le_of_eq hgl.symm); clear hb hbox hgl; have hcz0 : wl.cell? ⟨gl, 0, none⟩ = some (.int .i64 0) := (blk_cell BK.out 0).trans rfl; have hfz0 := blk_frozen BK.out 0))
      go_roundg k1
      case measure => have := HK1.out; omega
      case rel =>
       have HGW : wr.heap.size ≤ gl := Nat.le_trans HB10.out.size HGL.out; have hbz : Below wr.heap.size wr ((wl.setCell ⟨gl, 0, none⟩ (.int .i64 x8)).setCell ⟨gl, 0, none⟩ (.int .i64 (x8 + 1))) := below_set (below_set (below_step HB10.out HBl.out) HGW) HGW; exact ⟨gl, x8 + 1, v1, o1, rfl, ⟨blk_put (cs := #[.int .i64 x8]) (blk_put (cs := #[.int .i64 0]) BK.out 0 _ rfl) 0 _ rfl⟩, ⟨Nat.le_trans HK.out.1 HGW, fun e => by have := Kd.S_lt HO.out gl e.symm; omega⟩, ⟨by rw [← h4]; exact HA.out⟩, ⟨by have := HK1.out; omega⟩, ⟨blk_below HX.out hbz⟩, ⟨Kd.S_below HO.out hbz⟩, HV, ⟨below_step HB.out hbz⟩, ⟨⟨Nat.le_trans HK.out.1 hbz.size, fun i hi hn => (hbz.block i (Nat.lt_of_lt_of_le hi HK.out.1)).trans (HK.out.2 i hi hn)⟩⟩⟩
     | false =>
      rw [hany, if_neg (by decide)] at H
      obtain ⟨o2, hl, H⟩ := Option.bind_eq_some_iff.1 H; have HA := Aside0.mk H; have HLk := Aside0.mk hl; have HC2r := Aside0.mk (H2.out wr HK.out); have hcg : wr.cell? ⟨gg, 0, none⟩ = some (.func (.func 87) #[] #[.pointer (some ⟨gn, 0, none⟩), .pointer (some ⟨gb, 0, none⟩), .pointer (some ⟨ga, 0, none⟩), .pointer (some ⟨gg, 0, none⟩)]) := (blk_cell hbg 0).trans rfl; have p1 := eq_true c4; have q1 := eq_true c3; have hcut := impl_allTriangulations.cut (P := Try.prog) 35 54 Try.underlying35 info54 A2 beg.length c2 HC2.out; clear H hl hy hbn hba hbg hbr
      go_wp2_with (go_at_call 53; refine HC.out.mono ?_; rw [hany]; rintro e w10 ⟨rfl, hb2⟩; have HB10 := Aside0.mk hb2; clear hb2; have hcj10 := (HB10.out.cell (World.block_lt_of_cell? wr _ hcj)).trans hcj; have hg10 := (HB10.out.cell (World.block_lt_of_cell? wr _ hcg)).trans hcg; have ha10 := (HB10.out.cell (World.block_lt_of_cell? wr _ hca)).trans hca; have hy010 := (HB10.out.cell (World.block_lt_of_cell? wr _ hy0)).trans hy0; have hy110 := (HB10.out.cell (World.block_lt_of_cell? wr _ hy1)).trans hy1)
      refine start_ (n := 16) (S := fun w' => w'.cell? ⟨gg, 0, none⟩ = some (.func (.func 87) #[] #[.pointer (some ⟨gn, 0, none⟩), .pointer (some ⟨gb, 0, none⟩), .pointer (some ⟨ga, 0, none⟩), .pointer (some ⟨gg, 0, none⟩)]) ∧ w'.cell? ⟨ga, 0, none⟩ = some (.slice (some ad) all.length c1) ∧ w'.cell? ⟨gj, 0, none⟩ = some (.int .i64 x8) ∧ w'.cell? (ad.add (x8.toNat * 2)) = some (.int .i64 y.f0) ∧ w'.cell? ⟨(ad.add (x8.toNat * 2)).block, (ad.add (x8.toNat * 2)).off + 1, none⟩ = some (.int .i64 y.f1)) (ds := [15]) #[false, false, false, false, false, false, false, false, false, false, false, false, false, false, false, false] (by kernel_rfl) rfl rfl ⟨hg10, ha10, hcj10, hy010, hy110⟩ (fun hHeld => ?_)
      refine pure_ (i := 1) (N := some 31) (v := ?_) (a' := ?_) #[false, true, false, false, false, false, false, false, false, false, false, false, false, false, false, false] rfl rfl (by kernel_rfl) (fun _ _ _ h => h) (Or.inl ⟨by rfl, ?_⟩) ?_ ?_
      rotate_left
      ·intro w'
       go_simp
       with_reducible rfl
      rotate_left
      ·simp only [Act.put, List.setIfInBounds_toArray, List.set_cons_zero, List.set_cons_succ, i64_w, i32_w]
       rfl
      refine pure_ (i := 2) (N := some 32) (v := ?_) (a' := ?_) #[false, true, true, false, false, false, false, false, false, false, false, false, false, false, false, false] rfl rfl (by kernel_rfl) (fun _ _ _ h => h) (Or.inl ⟨by rfl, ?_⟩) ?_ ?_
      rotate_left
      ·intro w'
       go_simp
       with_reducible rfl
      rotate_left
      ·simp only [Act.put, List.setIfInBounds_toArray, List.set_cons_zero, List.set_cons_succ, i64_w, i32_w]
       rfl
      refine pure_ (i := 3) (N := some 33) (v := ?_) (a' := ?_) #[false, true, true, true, false, false, false, false, false, false, false, false, false, false, false, false] rfl rfl (by kernel_rfl) (fun _ _ _ h => h) (Or.inl ⟨by rfl, ?_⟩) ?_ ?_
      rotate_left
      ·intro w'
       go_simp
       with_reducible rfl
      rotate_left
      ·simp only [Act.put, List.setIfInBounds_toArray, List.set_cons_zero, List.set_cons_succ, i64_w, i32_w]
       rfl
      refine pure_ (i := 4) (N := some 34) (v := ?_) (a' := ?_) #[false, true, true, true, true, false, false, false, false, false, false, false, false, false, false, false] rfl rfl (by kernel_rfl) (fun _ _ _ h => h) (Or.inl ⟨by rfl, ?_⟩) ?_ ?_
      rotate_left
      ·intro w'
       go_simp
       with_reducible rfl
      rotate_left
      ·simp only [Act.put, List.setIfInBounds_toArray, List.set_cons_zero, List.set_cons_succ, i64_w, i32_w]
       rfl
      refine pure_ (i := 5) (N := some 35) (v := ?_) (a' := ?_) #[false, true, true, true, true, true, false, false, false, false, false, false, false, false, false, false] rfl rfl (by kernel_rfl) (fun _ _ _ h => h) (Or.inl ⟨by rfl, ?_⟩) ?_ ?_
      rotate_left
      ·intro w'
       go_simp
       with_reducible rfl
      rotate_left
      ·simp only [Act.put, List.setIfInBounds_toArray, List.set_cons_zero, List.set_cons_succ, i64_w, i32_w]
       rfl
      refine pure_ (i := 6) (N := some 36) (v := ?_) (a' := ?_) #[false, true, true, true, true, true, true, false, false, false, false, false, false, false, false, false] rfl rfl (by kernel_rfl) (fun _ _ _ h => h) (Or.inl ⟨by rfl, ?_⟩) ?_ ?_
      rotate_left
      ·intro w'
       go_simp
       with_reducible rfl
      rotate_left
      ·simp only [Act.put, List.setIfInBounds_toArray, List.set_cons_zero, List.set_cons_succ, i64_w, i32_w]
       rfl
      refine take_ (i := 0) (N := some 30) (v := ?_) (a' := ?_) #[true, true, true, true, true, true, true, false, false, false, false, false, false, false, false, false] rfl rfl (by kernel_rfl) (fun _ _ _ h => h) (Or.inl ⟨by rfl, ?_⟩) hHeld ?_ ?_
      rotate_left
      ·rintro w' ⟨s0, s1, s2, s3, s4⟩
       go_simp
       with_reducible rfl
      rotate_left
      ·simp only [Act.put, List.setIfInBounds_toArray, List.set_cons_zero, List.set_cons_succ, i64_w, i32_w]
       rfl
      refine take_ (i := 7) (N := some 37) (v := ?_) (a' := ?_) #[true, true, true, true, true, true, true, true, false, false, false, false, false, false, false, false] rfl rfl (by kernel_rfl) (fun _ _ _ h => h) (Or.inl ⟨by rfl, ?_⟩) hHeld ?_ ?_
      rotate_left
      ·rintro w' ⟨s0, s1, s2, s3, s4⟩
       go_simp
       with_reducible rfl
      rotate_left
      ·simp only [Act.put, List.setIfInBounds_toArray, List.set_cons_zero, List.set_cons_succ, i64_w, i32_w]
       rfl
      refine take_ (i := 8) (N := some 38) (v := ?_) (a' := ?_) #[true, true, true, true, true, true, true, true, true, false, false, false, false, false, false, false] rfl rfl (by kernel_rfl) (fun _ _ _ h => h) (Or.inl ⟨by rfl, ?_⟩) hHeld ?_ ?_
      rotate_left
      ·rintro w' ⟨s0, s1, s2, s3, s4⟩
       go_simp
       with_reducible rfl
      rotate_left
      ·simp only [Act.put, List.setIfInBounds_toArray, List.set_cons_zero, List.set_cons_succ, i64_w, i32_w]
       rfl
      refine pure_ (i := 9) (N := some 39) (v := ?_) (a' := ?_) #[true, true, true, true, true, true, true, true, true, true, false, false, false, false, false, false] rfl rfl (by kernel_rfl) (fun _ _ _ h => h) (Or.inl ⟨by rfl, ?_⟩) ?_ ?_
      rotate_left
      ·intro w'
       go_simp
       with_reducible rfl
      rotate_left
      ·simp only [Act.put, List.setIfInBounds_toArray, List.set_cons_zero, List.set_cons_succ, i64_w, i32_w]
       rfl
      refine take_ (i := 10) (N := some 40) (v := ?_) (a' := ?_) #[true, true, true, true, true, true, true, true, true, true, true, false, false, false, false, false] rfl rfl (by kernel_rfl) (fun _ _ _ h => h) (Or.inl ⟨by rfl, ?_⟩) hHeld ?_ ?_
      rotate_left
      ·rintro w' ⟨s0, s1, s2, s3, s4⟩
       go_simp
       with_reducible rfl
      rotate_left
      ·simp only [Act.put, List.setIfInBounds_toArray, List.set_cons_zero, List.set_cons_succ, i64_w, i32_w]
       rfl
      refine take_ (i := 13) (N := some 43) (v := ?_) (a' := ?_) #[true, true, true, true, true, true, true, true, true, true, true, false, false, true, false, false] rfl rfl (by kernel_rfl) (fun _ _ _ h => h) (Or.inl ⟨by rfl, ?_⟩) hHeld ?_ ?_
      rotate_left
      ·rintro w' ⟨s0, s1, s2, s3, s4⟩
       go_simp
       with_reducible rfl
      rotate_left
      ·simp only [Act.put, List.setIfInBounds_toArray, List.set_cons_zero, List.set_cons_succ, i64_w, i32_w]
       rfl
      refine pure_ (i := 14) (N := some 44) (v := ?_) (a' := ?_) #[true, true, true, true, true, true, true, true, true, true, true, false, false, true, true, false] rfl rfl (by kernel_rfl) (fun _ _ _ h => h) (Or.inl ⟨by rfl, ?_⟩) ?_ ?_
      rotate_left
      ·intro w'
       go_simp
       with_reducible rfl
      rotate_left
      ·simp only [Act.put, List.setIfInBounds_toArray, List.set_cons_zero, List.set_cons_succ, i64_w, i32_w]
       rfl
      refine one_ (i := 11) (N := some 41) #[true, true, true, true, true, true, true, true, true, true, true, true, false, true, true, false] rfl rfl (by kernel_rfl) (by decide) (fun K hK => ?_)
      refine Kd.R_lit_step k54 (w0 := w10) w10.heap.size 54 (by rfl) (N := 41) rfl (xs := ([y] : List S54)) (inner := [.int .i64 y.f0, .int .i64 y.f1]) (ok := fun _ => True) (okp := fun _ => True) ?hr4 ?hp4 (fun _ hk => hk) trivial (below_drew1 (Below.refl _ _)) (Nat.le_refl _) (by simp) ?_
      case hr4 => first | (go_simp; done) | (go_simp; rfl)
      case hp4 => exact (Reps.snoc (Reps.none _ _) (k54_mkM _ _ _ y) rfl)
      intro v9 w9 ho9 hb9 hg9 hn9; obtain ⟨A9, c9, e9⟩ := Kd.R_slice ho9; have e9' : v9 = .slice A9 [y].length c9 := e9; clear e9; subst e9'; refine hK.out _ _ ⟨(hb9.cell (World.block_lt_of_cell? w10 _ hg10)).trans hg10, (hb9.cell (World.block_lt_of_cell? w10 _ ha10)).trans ha10, (hb9.cell (World.block_lt_of_cell? w10 _ hcj10)).trans hcj10, (hb9.cell (World.block_lt_of_cell? w10 _ hy010)).trans hy010, (hb9.cell (World.block_lt_of_cell? w10 _ hy110)).trans hy110⟩ (fun hHeld => ?_)
      clear hK K; refine na_ (some 41) ?_; refine one_ (i := 12) (N := some 42) #[true, true, true, true, true, true, true, true, true, true, true, true, true, true, true, false] rfl rfl (by kernel_rfl) (by decide) (fun K hK => ?_)
      refine impl_allTriangulations.cap (by rfl) (.tmp 36) (.tmp 41) 35 54 rfl Try.underlying35 info54 A2 beg y rfl (Kd.C_below (Kd.C_below HC2r.out HB10.out) hb9) A9 c9 rfl (Kd.R_reads' ho9).2.2 (by have := HBL.out; have := HN.out; omega) ?_
      intro v12 w12 ho12 hb12; have hbq : Below wr.heap.size wr w12 := below_step (below_step HB10.out hb9) hb12; have hbt := below_step hb9 hb12; obtain ⟨A10, c10, e10⟩ := Kd.R_slice ho12; subst e10; refine hK.out _ _ ⟨(hbt.cell (World.block_lt_of_cell? w10 _ hg10)).trans hg10, (hbt.cell (World.block_lt_of_cell? w10 _ ha10)).trans ha10, (hbt.cell (World.block_lt_of_cell? w10 _ hcj10)).trans hcj10, (hbt.cell (World.block_lt_of_cell? w10 _ hy010)).trans hy010, (hbt.cell (World.block_lt_of_cell? w10 _ hy110)).trans hy110⟩ (fun hHeld => ?_)
      clear hK K; refine na_ (some 42) ?_
      have HKc : ∀ W' : World, Kept w12 W' (fun k_ => k_ = gb ∨ some k_ = v1.ownBlock) → Kept w W' (fun k_ => k_ = gb ∨ some k_ = v.ownBlock) := by
       intro W' hk; refine ⟨Nat.le_trans HK.out.1 (Nat.le_trans hbq.size hk.1), fun i hi hn => ?_⟩
       have hi2 : i < wr.heap.size := Nat.lt_of_lt_of_le hi HK.out.1; refine (hk.2 i (Nat.lt_of_lt_of_le hi2 hbq.size) (fun h => ?_)).trans ((hbq.block i hi2).trans (HK.out.2 i hi hn))
       rcases h with h | h
       ·exact hn (.inl h)
       ·rcases HV.out with hv | ⟨b_, hv, hb_⟩
        ·exact hn (.inr (h.trans hv))
        ·rw [hv] at h
         have := Option.some.inj h
         omega
      have hgr : gb < wr.heap.size := blk_lt HX.out; have hvr : ∀ k_, v1.ownBlock = some k_ → k_ < wr.heap.size := Kd.S_lt HO.out; have hsz9 : wr.heap.size ≤ w9.heap.size := Nat.le_trans HB10.out.size hb9.size
      have hrec := HIH.out k1 (by have := HK1.out; omega) n (some ad) c1 all A10 c10 (beg ++ [y]) (wrap64 (x8 + 1)) gn gb ga gg v1 o1 o2 w0 w12 HN.out.1 HN.out.2 HAL.out (by rw [List.length_append, List.length_singleton]; have := HBL.out; omega) (below_step HB.out hbq) HGB.out (blk_below HX.out hbq) (Kd.S_below HO.out hbq)
       (fun W' hk => H1.out W' (HKc W' hk)) HC1.out
       (fun W' hk => (Kd.R_reads' (Kd.R_kept (Kd.R_mono (Kd.R_bound ho12) (ok' := fun k_ => w9.heap.size ≤ k_) (fun k_ hk => hk.2.1)) hk (fun k_ hk h => by
        rcases h with h | h
        ·omega
        ·have := hvr k_ h.symm; omega))).2.2) (Kd.R_reads' ho12).2.1 HLk.out
      refine last_ (i := 15) (N := some 45) #[true, true, true, true, true, true, true, true, true, true, true, true, true, true, true, true] rfl rfl (by kernel_rfl) (by decide) (fun K hK => ?_)
      refine impl_allTriangulations.goesF (.tmp 30) (by rfl) Try.func87 (by kernel_rfl) rfl #[.slice A10 (beg ++ [y]).length c10, .int .i64 (wrap64 (x8 + 1)), .pointer (some ⟨gn, 0, none⟩), .pointer (some ⟨gb, 0, none⟩), .pointer (some ⟨ga, 0, none⟩), .pointer (some ⟨gg, 0, none⟩)] (by rfl) rfl rfl (by rw [h4]; simp only [List.map_toArray, List.map_cons, List.map_nil, List.append_toArray, List.cons_append, List.nil_append]; first | done | rfl) ?_
      refine hrec.mono ?_
      rintro e w13 ⟨rfl, v2, hx13, ho13, hv13, hb13, hk13⟩
      refine ⟨_, rfl, ?_⟩; refine hK.out _ _ ?_; clear hK K; refine na_ (some 45) ?_; refine done_ (by kernel_rfl) ?_
      have hj13 : w13.heap[gj]? = some (.cells #[.int .i64 x8] 3 (0, 0)) := (hk13.2 gj (blk_lt (blk_below HJ.out hbq)) (fun h => by
       rcases h with h | h
       ·have := HGJ.out.1; have := HG.out; omega
       ·exact HGJ.out.2 h)).trans (blk_below HJ.out hbq)
      have hcj13 : w13.cell? ⟨gj, 0, none⟩ = some (.int .i64 x8) := (blk_cell hj13 0).trans rfl; have HX13 := Aside0.mk hx13; have HO13 := Aside0.mk ho13; have HB13 := Aside0.mk hb13; have HV13 := Aside0.mk (show v2.ownBlock = v.ownBlock ∨ ∃ b, v2.ownBlock = some b ∧ w.heap.size ≤ b from hv13.elim (fun e_ => HV.out.elim (fun e2_ => .inl (e_.trans e2_)) (fun ⟨b_, h1_, h2_⟩ => .inr ⟨b_, e_.trans h1_, h2_⟩)) (fun ⟨b_, h1_, h2_⟩ => .inr ⟨b_, h1_, Nat.le_trans (Nat.le_trans HK.out.1 hbq.size) h2_⟩))
      have HK13 := Aside0.mk (HKc w13 hk13); clear hx13 ho13 hb13 hv13 hk13 hj13 hrec hvr hgr hsz9 HKc hbq hbt hb12 ho12 hb9 hg9 hn9 ho9 hg10 ha10 hcj10 hy010 hy110 hcj hca hy0 hy1
      go_wp2_with ((with_reducible refine gate_dst (N := 8) rfl ?_); refine box_event ?hg (N := 8) ?hd (cs := #[.int .i64 0]) (t := 3) ?hr ?_; (case hd => rfl); (case hg => rfl); (case hr => first | (go_simp; done) | (go_simp; rfl)); intro gl hgl wl hbox hb; have BK := Aside0.mk hbox; have HBl := Aside0.mk hb; have HGL := Aside0.mk (Nat.le_of_eq hgl.symm); clear hb hbox hgl; have hcz0 : wl.cell? ⟨gl, 0, none⟩ = some (.int .i64 0) := (blk_cell BK.out 0).trans rfl; have hfz0 := blk_frozen BK.out 0)
      go_roundg k1
      case measure => have := HK1.out; omega
      case rel =>
       have hbz : Below w13.heap.size w13 ((wl.setCell ⟨gl, 0, none⟩ (.int .i64 x8)).setCell ⟨gl, 0, none⟩ (.int .i64 (x8 + 1))) := below_set (below_set HBl.out HGL.out) HGL.out; exact ⟨gl, x8 + 1, v2, o2, rfl, ⟨blk_put (cs := #[.int .i64 x8]) (blk_put (cs := #[.int .i64 0]) BK.out 0 _ rfl) 0 _ rfl⟩, ⟨Nat.le_trans HK13.out.1 HGL.out, fun e => by have := Kd.S_lt HO13.out gl e.symm; have := HGL.out; omega⟩, ⟨by rw [← h4]; exact HA.out⟩, ⟨by have := HK1.out; omega⟩, ⟨blk_below HX13.out hbz⟩, ⟨Kd.S_below HO13.out hbz⟩, HV13, ⟨below_step HB13.out hbz⟩, ⟨⟨Nat.le_trans HK13.out.1 hbz.size, fun i hi hn => (hbz.block i (Nat.lt_of_lt_of_le hi HK13.out.1)).trans (HK13.out.2 i hi hn)⟩⟩⟩
    ·rw [if_neg c3] at H
     obtain rfl := Option.some.inj H; have c3b0 : decide (x8 < (all.length : Int)) = false := decide_eq_false c3; clear hbn hba hbg hbr
     go_wp2
     go_end0
     exact ⟨rfl, v1, HX.out, HO.out, HV.out, HB.out, HK.out⟩
theorem impl_allTriangulations.goesC {P : Program} {ops : Array Oper} {Q : Exit → Act → World → Prop} {rest : List Oper} {oi : Oper} {a : Act} {w : World} (N : Option Tmp) (hd : oi.dst = N) (hg : oi.guard = none) (x : Operand) {f : FuncId} {fr : Array Value} (hx : a.eval x = .func (.func f) #[] fr) {fn : Func} {az : Array Operand} {ts : Array TypeId}
  (hop : oi.op = .call { callee := .value x, args := az, argTypes := ts }) (hf : P.funcs[f]? = some fn) (hname : (fn.name == "runtime.NumGoroutine") = false) (hb : fn.body.isSome = true) (args : Array Value)
  (hargs : az.map a.eval ++ fr = args)
  (h : Calls P f args w fun e w' => ∃ v, e = .returned v ∧ wpList P ops Q rest (a.put N v) w') : wpList P ops Q (oi :: rest) a w := by
 refine wpList_plain hg fun K hK => ?_
 have he := enters_ hf hname hb args w
 have hrun : (execOp a.eval oi).run P w = .ok (.enter f args) w := by
  unfold execOp
  simp [hop, resolve, Deferred.ofValue, invoke, hx, hargs, he]
 unfold Oper.wp
 rw [hrun, Oper.upon_enter]; refine h.mono fun e w'' hh => ?_
 obtain ⟨v, rfl, hk⟩ := hh; subst hd; exact hK _ _ hk
set_option maxHeartbeats 8000000 in
set_option maxRecDepth 100000 in
theorem impl_allTriangulations.calls (k : Nat) (a0 : Int) (r : List (List S54)) (w : World) (h : impl_allTriangulations.f k a0 = some r) :
  Calls Try.prog 60 #[.int .i64 a0] w fun e w' => ∃ v0_ : Value, e = .returned (v0_) ∧ Kd.S (Kd.slice 54 k54) 35 w' w.heap.size (fun _ => True) v0_ r ∧ Below w.heap.size w w' := by
 have hu := Try.underlying54
 unfold impl_allTriangulations.f at h
 obtain ⟨all, hall, h⟩ := Option.bind_eq_some_iff.1 h
 by_cases hcd : 3 ≤ a0 ∧ a0 ≤ 1000 ∧ all.length ≤ 1000000
 case neg => rw [if_neg hcd] at h; cases h
 rw [if_pos hcd] at h
 have HGd := Aside0.mk hcd; have HLk := Aside0.mk h; have HAl := Aside0.mk hall; clear h hcd hall; have hsf : ∀ (W : World) (p : Addr) (f : Array Value), W.cell? p = some .nilFunc → W.frozen? p = false → (store p (.func (.func 87) #[] f)).run Try.prog W = .ok () (W.setCell p (.func (.func 87) #[] f)) := fun W p f h1 h2 => by rw [run_store (hv := rfl)]; simp [h1, h2]
 go_enter Try.func60, Try.ntmps60
 go_wp2_with (first | ((with_reducible refine gate_dst (N := 1) rfl ?_); refine box_event ?hg (N := 1) ?hd (cs := #[.int .i64 a0]) (t := 3) ?hr ?_; (case hd => rfl); (case hg => rfl); (case hr => first | (go_simp; done) | (go_simp; rfl)); intro gn hgn w1 hbox hb; have BN1 := Aside0.mk hbox; have HB1 := Aside0.mk hb; have HGN := Aside0.mk (Nat.le_of_eq hgn.symm); clear hb hbox hgn; have hcn : w1.cell? ⟨gn, 0, none⟩ = some (.int .i64 a0) := (blk_cell BN1.out 0).trans rfl) | ((with_reducible refine gate_dst (N := 6) rfl ?_); refine Kd.S_lit (Kd.slice 54 k54) (w0 := w1) w1.heap.size 35 ?hg6 (N := 6) ?hd6 (xs := ([] : List (List S54))) (inner := []) (ok := fun _ => True) (okp := fun _ => True) ?hr6 ?hp6 (fun _ hk => hk) trivial (Below.refl _ _) (Nat.le_refl _) (by simp) ?_; (case hd6 => rfl); (case hg6 => rfl); (case hr6 => first | (go_simp; done) | (go_simp; rfl)); (case hp6 => exact (Reps.none _ _)); intro v6 w2 ho hb hg_ hn_; obtain ⟨A6, c6, e6⟩ := Kd.S_slice ho; subst e6; have HO2 := Aside0.mk ho; have HB2 := Aside0.mk hb; have hcn2 := (HB2.out.cell (World.block_lt_of_cell? w1 _ hcn)).trans hcn; clear ho hb hg_ hn_) | (go_at_call 86; refine (impl_allDiagonals.calls k a0 all _ HAl.out).mono ?_; rintro e w3 ⟨v8, rfl, ho, hb⟩; obtain ⟨A8, c8, e8⟩ := Kd.R_slice ho; subst e8; have HO3 := Aside0.mk ho; have HB3 := Aside0.mk hb; clear ho hb) | ((with_reducible refine gate_dst (N := 3) rfl ?_); refine box_event ?hg3 (N := 3) ?hd3 (cs := #[.slice none 0 0]) (t := 39) ?hr3 ?_; (case hd3 => rfl); (case hg3 => rfl); (case hr3 => first | (go_simp; done) | (go_simp; rfl)); intro go hg_ w4 hbox hb; have BO4 := Aside0.mk hbox; have HB4 := Aside0.mk hb; have HGO := Aside0.mk (Nat.le_of_eq hg_.symm); clear hb hbox hg_; have hco4 : w4.cell? ⟨go, 0, none⟩ = some (.slice none 0 0) := (blk_cell BO4.out 0).trans rfl) | ((with_reducible refine gate_dst (N := 4) rfl ?_); refine box_event ?hg4 (N := 4) ?hd4 (cs := #[.slice none 0 0]) (t := 35) ?hr4 ?_; (case hd4 => rfl); (case hg4 => rfl); (case hr4 => first | (go_simp; done) | (go_simp; rfl)); intro ga hg_ w5 hbox hb; have BA5 := Aside0.mk hbox; have HB5 := Aside0.mk hb; have HGA := Aside0.mk (Nat.le_of_eq hg_.symm); have BO5 := Aside0.mk (blk_below BO4.out hb); clear hb hbox hg_; have hco5 : w5.cell? ⟨go, 0, none⟩ = some (.slice none 0 0) := (blk_cell BO5.out 0).trans rfl; have hca5 : w5.cell? ⟨ga, 0, none⟩ = some (.slice none 0 0) := (blk_cell BA5.out 0).trans rfl; have hfo5 := blk_frozen BO5.out 0; have hfa5 := blk_frozen BA5.out 0; have hne5 : go ≠ ga := (by have := blk_lt BO4.out; have := HGA.out; omega)) | ((with_reducible refine gate_dst (N := 5) rfl ?_); refine box_event ?hg5 (N := 5) ?hd5 (cs := #[.nilFunc]) (t := 78) ?hr5 ?_; (case hd5 => rfl); (case hg5 => rfl); (case hr5 => first | (go_simp; done) | (go_simp; rfl)); intro gg hg_ w7 hbox hb; have BG7 := Aside0.mk hbox; have HB7 := Aside0.mk hb; have HGG := Aside0.mk (Nat.le_of_eq hg_.symm); clear hb hbox hg_; have hcg7 : w7.cell? ⟨gg, 0, none⟩ = some .nilFunc := (blk_cell BG7.out 0).trans rfl; have hfg7 := blk_frozen BG7.out 0) | ((with_reducible refine gate_calleeT (x := .tmp 10) rfl ?_); refine impl_allTriangulations.goesC (some 11) rfl rfl (.tmp 10) (by rfl) rfl Try.func87 (by kernel_rfl) rfl #[.slice none 0 0, .int .i64 0, .pointer (some ⟨gn, 0, none⟩), .pointer (some ⟨go, 0, none⟩), .pointer (some ⟨ga, 0, none⟩), .pointer (some ⟨gg, 0, none⟩)] (by simp only [List.map_toArray, List.map_cons, List.map_nil, List.append_toArray, List.cons_append, List.nil_append]; first | done | rfl) ?_))
 generalize hF : Value.func (.func 87) #[] #[.pointer (some ⟨gn, 0, none⟩), .pointer (some ⟨go, 0, none⟩), .pointer (some ⟨ga, 0, none⟩), .pointer (some ⟨gg, 0, none⟩)] = F; obtain ⟨Wb, hWb⟩ : ∃ Wb, w7.setCell ⟨gg, 0, none⟩ F = Wb := ⟨_, rfl⟩; rw [hWb]; have hsz : ∀ (W : World) (p : Addr) (u : Value), (W.setCell p u).heap.size = W.heap.size := fun W p u => by simp [World.setCell]
 have z7 := HB7.out.size; have zg := HGG.out; rw [hsz, hsz] at z7 zg
 have z2 := HB2.out.size; have z3 := HB3.out.size; have z4 := HB4.out.size; have z5 := HB5.out.size; have z1 := HB1.out.size; have zn := blk_lt BN1.out; have zo := blk_lt BO4.out; have zo2 := HGO.out; have za := blk_lt BA5.out; have za2 := HGA.out; have zb : Wb.heap.size = w7.heap.size := by rw [← hWb, hsz]
 have hT : ∀ i, i < w3.heap.size → Wb.heap[i]? = w3.heap[i]? := by
  intro i hi; rw [← hWb]; refine (Below.heap_setCell w7 _ _ i (by show i ≠ gg; omega)).trans ((HB7.out.block i (by rw [hsz, hsz]; omega)).trans ((Below.heap_setCell _ _ _ i (by show i ≠ ga; omega)).trans ((Below.heap_setCell w5 _ _ i (by show i ≠ go; omega)).trans ((HB5.out.block i (by omega)).trans (HB4.out.block i hi)))))
 have bn : Wb.heap[gn]? = some (.cells #[.int .i64 a0] 3 (0, 0)) := (hT gn (by omega)).trans ((HB3.out.block gn (by omega)).trans ((HB2.out.block gn zn).trans BN1.out))
 have bo : Wb.heap[go]? = some (.cells #[.slice A6 0 c6] 39 (0, 0)) := by
  rw [← hWb]; refine (Below.heap_setCell w7 _ _ go (by show go ≠ gg; omega)).trans ((HB7.out.block go (by rw [hsz, hsz]; omega)).trans ((Below.heap_setCell _ _ _ go (by show go ≠ ga; omega)).trans ?_))
  exact blk_put (cs := #[.slice none 0 0]) BO5.out 0 _ rfl
 have ba : Wb.heap[ga]? = some (.cells #[.slice A8 all.length c8] 35 (0, 0)) := by
  rw [← hWb]; refine (Below.heap_setCell w7 _ _ ga (by show ga ≠ gg; omega)).trans ((HB7.out.block ga (by rw [hsz, hsz]; omega)).trans ?_)
  refine blk_put (cs := #[.slice none 0 0]) ?_ 0 _ rfl; exact (Below.heap_setCell w5 _ _ ga (by show ga ≠ go; omega)).trans BA5.out
 have bg : Wb.heap[gg]? = some (.cells #[F] 78 (0, 0)) := by rw [← hWb]; exact blk_put (cs := #[.nilFunc]) BG7.out 0 _ rfl
 have zg2 := blk_lt BG7.out
 have hbA : Below w.heap.size w Wb := by
  rw [← hWb]; exact below_set (below_step (below_set (below_set (below_step (below_step (below_step (below_step HB1.out HB2.out) HB3.out) HB4.out) HB5.out) (by show w.heap.size ≤ go; omega)) (by show w.heap.size ≤ ga; omega)) HB7.out) (by show w.heap.size ≤ gg; omega)
 have hO6 : Kd.S (Kd.slice 54 k54) 35 Wb w.heap.size (fun k_ => k_ ≠ go) (.slice A6 0 c6) [] := Kd.S_lower (Kd.S_mono (Kd.S_step (Kd.S_bound HO2.out) (fun k_ _ hk => (hT k_ (by omega)).trans (HB3.out.block k_ hk))) (fun k_ hk => by have := hk.2.2.1; omega)) z1
 have hO8 : Kd.R k54 54 Wb w2.heap.size (fun k_ => w2.heap.size ≤ k_ ∧ k_ < w3.heap.size) (.slice A8 all.length c8) all := Kd.R_mono (Kd.R_step (Kd.R_bound HO3.out) (fun k_ _ hk => hT k_ hk)) (fun k_ hk => ⟨hk.2.1, hk.2.2.1⟩)
 have hv0 : ∀ k_, (Value.slice A6 0 c6).ownBlock = some k_ → w1.heap.size ≤ k_ ∧ k_ < w2.heap.size := fun k_ hk => ⟨Kd.S_base HO2.out k_ hk, Kd.S_lt HO2.out k_ hk⟩
 have hx : ∀ W' : World, Kept Wb W' (fun k_ => k_ = go ∨ some k_ = (Value.slice A6 0 c6).ownBlock) → impl_allTriangulations.bx gn go ga gg a0 A8 c8 all W' := by
  intro W' hk; refine ⟨(hk.2 gn (by omega) (fun h => ?_)).trans bn, (hk.2 ga (by omega) (fun h => ?_)).trans ba, (hk.2 gg (by omega) (fun h => ?_)).trans (by rw [bg, ← hF]), (Kd.R_reads' (Kd.R_kept hO8 hk (fun k_ hk h => ?_))).2.2⟩
  ·rcases h with h | h
   ·omega
   ·have := hv0 _ h.symm; omega
  ·rcases h with h | h
   ·omega
   ·have := hv0 _ h.symm; omega
  ·rcases h with h | h
   ·omega
   ·have := hv0 _ h.symm; omega
  ·rcases h with h | h
   ·omega
   ·have := hv0 _ h.symm; omega
 refine (impl_allTriangulations.gr k a0 A8 c8 all none 0 [] 0 gn go ga gg (.slice A6 0 c6) [] r w Wb HGd.out.1 HGd.out.2.1 HGd.out.2.2 (by have := HGd.out.1; simp; omega) hbA (by omega) bo hO6 hx (Kd.R_reads' HO3.out).2.1 (fun W' _ => by unfold Kd.C ReadsRow; exact ⟨rfl, by simp, fun hp => absurd hp (by simp)⟩) (Nat.le_refl _) HLk.out).mono ?_
 rintro e w8 ⟨rfl, v', hx8, ho8, hv8, hb8, hk8⟩
 have HS8 := Aside0.mk ho8; have HB8 := Aside0.mk hb8; have hc8 : w8.cell? ⟨go, 0, none⟩ = some v' := (blk_cell hx8 0).trans rfl; clear hx8 ho8 hv8 hb8 hk8 hx hv0 hO8 hO6 hbA bg ba bo bn hT; refine ⟨_, rfl, ?_⟩
 go_wp2
 go_ret
 exact ⟨_, rfl, Kd.S_mono HS8.out (fun _ _ => trivial), HB8.out⟩
end Go.Proofs.Ytmpmmhmnjdkgcab.PFnExactAllTriangulations
