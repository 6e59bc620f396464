-- Written for this claim by a program of this session (wip/tools/xprint.py over the kit's printer, wip/tools/shrink.py).
import Derived.Test.YtmpmmhmnjdkgcabPFnExactAllTriangulationsx0
import Derived.Test.YtmpmmhmnjdkgcabPFnExactAllTriangulationsx1
namespace Go.Proofs.Ytmpmmhmnjdkgcab.PFnExactAllTriangulations
open Go.RowKit Go.Proofs.YtmpmmhmnjdkgcabW.PrintWords Go.Proofs.YtmpmmhmnjdkgcabW.PrintLast Go.Proofs.YtmpmmhmnjdkgcabW.PrintMore
attribute [local go_sem] max2_int min2_int max_two min_two max_three min_three max_four min_four   -- for this text's walks alone
set_option linter.unusedVariables false
set_option linter.unusedSimpArgs false
def spec_poAll.x (d0 d1 e0 e1 : Int) : Bool := (decide (d0 < e0) && decide (e0 < d1) && decide (d1 < e1)) || (decide (e0 < d0) && decide (d0 < e1) && decide (e1 < d1))
theorem spec_poAll.xf (d0 d1 e0 e1 : Int) : spec_poCross.f d0 d1 e0 e1 = some (spec_poAll.x d0 d1 e0 e1) := by
 unfold spec_poCross.f spec_poAll.x
 by_cases h1 : d0 < e0 <;> by_cases h2 : e0 < d1 <;> by_cases h3 : d1 < e1 <;> by_cases h4 : e0 < d0 <;> by_cases h5 : d0 < e1 <;> by_cases h6 : e1 < d1 <;> simp [h1, h2, h3, h4, h5, h6]
mutual
def spec_poAll.look : Nat → Int → List S54 → List S54 → List (List S54) → Option (List (List S54))
 | 0, _, _, _, _ => none
 | k + 1, n, all, beg, out => if (beg.length : Int) = wrap64 (n - 3) then (if out.length ≤ 1000000 then some (out ++ [beg]) else none) else spec_poAll.loop k n all beg out 0
def spec_poAll.loop : Nat → Int → List S54 → List S54 → List (List S54) → Int → Option (List (List S54))
 | 0, _, _, _, _, _ => none
 | k + 1, n, all, beg, out, x => if x < (all.length : Int) then (if 0 ≤ x then (if (beg.any fun e => spec_poAll.x (rd_T54 all x).f0 (rd_T54 all x).f1 e.f0 e.f1) = true then spec_poAll.loop k n all beg out (wrap64 (x + 1)) else ((spec_poAll.look k n (all.drop (x + 1).toNat) (beg ++ [rd_T54 all x]) out).bind fun o => spec_poAll.loop k n all beg o (wrap64 (x + 1)))) else none) else some out
end
mutual
def spec_poAll.l0 : Nat → Int → List S54 → Int → Option (List (List S54))
 | 0, _, _, _ => none
 | k + 1, n, all, a => if a < n then spec_poAll.l1 k n all a (wrap64 (a + 2)) else (if 3 ≤ n ∧ n ≤ 1000 ∧ all.length ≤ 1000000 then spec_poAll.look k n all [] [] else none)
def spec_poAll.l1 : Nat → Int → List S54 → Int → Int → Option (List (List S54))
 | 0, _, _, _, _ => none
 | k + 1, n, all, a, b => if b < n then ((spec_poDiagonal.f n a b).bind fun t => if t = true then (if all.length < 5864062014805 then spec_poAll.l1 k n (all ++ [⟨a, b⟩]) a (wrap64 (b + 1)) else none) else spec_poAll.l1 k n all a (wrap64 (b + 1))) else spec_poAll.l0 k n all (wrap64 (a + 1))
end
def spec_poAll.f (k : Nat) (a0 : Int) : Option (List (List S54)) := spec_poAll.l0 k a0 [] 0
set_option maxHeartbeats 8000000 in
set_option maxRecDepth 100000 in
theorem spec_poAll.lk : ∀ (k : Nat) (n : Int) (A1 : Option Addr) (c1 : Nat) (all : List S54) (A2 : Option Addr) (c2 : Nat) (beg : List S54) (gb : Nat) (v : Value) (outs r : List (List S54)) (w0 w : World), 3 ≤ n → n ≤ 1000 → all.length ≤ 1000000 → (beg.length : Int) ≤ n - 3 → Below w0.heap.size w0 w → w0.heap.size ≤ gb →
  w.heap[gb]? = some (.cells #[v] 39 (0, 0)) → Kd.S (Kd.slice 54 k54) 35 w w0.heap.size (fun k_ => k_ ≠ gb) v outs →
  (∀ W' : World, Kept w W' (fun k_ => k_ = gb ∨ some k_ = v.ownBlock) → Kd.C k54 W' A1 all.length all) → all.length ≤ c1 →
  (∀ W' : World, Kept w W' (fun k_ => k_ = gb ∨ some k_ = v.ownBlock) → Kd.C k54 W' A2 beg.length beg) → beg.length ≤ c2 → spec_poAll.look k n all beg outs = some r →
  Calls Try.prog 85 #[.int .i64 n, .slice A1 all.length c1, .slice A2 beg.length c2, .pointer (some ⟨gb, 0, none⟩)] w fun e w' => e = .returned (.tuple #[]) ∧ ∃ v' : Value, w'.heap[gb]? = some (.cells #[v'] 39 (0, 0)) ∧ Kd.S (Kd.slice 54 k54) 35 w' w0.heap.size (fun k_ => k_ ≠ gb) v' r ∧ (v'.ownBlock = v.ownBlock ∨ ∃ b, v'.ownBlock = some b ∧ w.heap.size ≤ b) ∧ Below w0.heap.size w0 w' ∧ Kept w w' (fun k_ => k_ = gb ∨ some k_ = v.ownBlock) := by
 intro k
 induction k using Nat.strongRecOn with
 | ind k IH =>
 intro n A1 c1 all A2 c2 beg gb v outs r w0 w hn3 hn hal hbl hB hgb hx ho hr1 hc1 hr2 hc2 h; have hu := Try.underlying54
 cases k with
 | zero => simp [spec_poAll.look] at h
 | succ k =>
 simp only [spec_poAll.look] at h
 have hk0 : Kept w w (fun k_ => k_ = gb ∨ some k_ = v.ownBlock) := ⟨Nat.le_refl _, fun _ _ _ => rfl⟩
 by_cases hc : (beg.length : Int) = wrap64 (n - 3)
 ·rw [if_pos hc] at h
  by_cases hlo : outs.length ≤ 1000000
  case neg => rw [if_neg hlo] at h; cases h
  rw [if_pos hlo] at h
  obtain rfl := Option.some.inj h; have hcell : w.cell? ⟨gb, 0, none⟩ = some v := (blk_cell hx 0).trans rfl; have HG := Aside0.mk (blk_lt hx); have HC2 := Aside0.mk (hr2 w hk0); have HL2 := Aside0.mk (show beg.length ≤ 1000 by have h9 : wrap64 (n - 3) = n - 3 := (by simp only [wrap64]; omega); omega)
  have HLo := Aside0.mk hlo; have HO := Aside0.mk (Kd.S_mono (Kd.S_bound ho) (ok' := fun k_ => k_ ≠ gb ∧ k_ < w.heap.size) (fun k_ hk => ⟨hk.1, hk.2.2.1⟩))
  have HB := Aside0.mk hB; have HX := Aside0.mk hx; have HGB := Aside0.mk hgb; have c0 : decide ((beg.length : Int) = wrap64 (n - 3)) = true := decide_eq_true hc; have c1_ : ((beg.length : Int) == wrap64 (n - 3)) = true := beq_iff_eq.2 hc; have hw3 : wrap64 (n - 3) = n - 3 := by simp only [wrap64]; omega
  rw [hw3] at hc
  have c2_ : ((beg.length : Int) == n - 3) = true := beq_iff_eq.2 hc; clear hw3; clear hr1 hr2 hB hx ho hlo IH hc
  go_enter Try.func85, Try.ntmps85
  go_wp2
  refine start_ (n := 11) (S := fun w' => w'.cell? ⟨gb, 0, none⟩ = some v) (ds := [10]) #[false, false, false, false, false, false, false, false, false, false, false] (by kernel_rfl) rfl rfl hcell (fun hHeld => ?_)
  refine pure_ (i := 0) (N := some 18) (v := ?_) (a' := ?_) #[true, false, false, false, false, false, false, false, false, false, false] rfl rfl (by kernel_rfl) (fun _ _ _ h => h) (Or.inl ⟨by rfl, ?_⟩) ?_ ?_
  rotate_left
  ·intro w'
   go_simp
   with_reducible rfl
  rotate_left
  ·simp only [Act.put, List.setIfInBounds_toArray, List.set_cons_zero, List.set_cons_succ, i64_w, i32_w]
   rfl
  refine pure_ (i := 1) (N := some 19) (v := ?_) (a' := ?_) #[true, true, false, false, false, false, false, false, false, false, false] rfl rfl (by kernel_rfl) (fun _ _ _ h => h) (Or.inl ⟨by rfl, ?_⟩) ?_ ?_
  rotate_left
  ·intro w'
   go_simp
   with_reducible rfl
  rotate_left
  ·simp only [Act.put, List.setIfInBounds_toArray, List.set_cons_zero, List.set_cons_succ, i64_w, i32_w]
   rfl
  refine pure_ (i := 2) (N := some 20) (v := ?_) (a' := ?_) #[true, true, true, false, false, false, false, false, false, false, false] rfl rfl (by kernel_rfl) (fun _ _ _ h => h) (Or.inl ⟨by rfl, ?_⟩) ?_ ?_
  rotate_left
  ·intro w'
   go_simp
   with_reducible rfl
  rotate_left
  ·simp only [Act.put, List.setIfInBounds_toArray, List.set_cons_zero, List.set_cons_succ, i64_w, i32_w]
   rfl
  refine pure_ (i := 5) (N := some 23) (v := ?_) (a' := ?_) #[true, true, true, false, false, true, false, false, false, false, false] rfl rfl (by kernel_rfl) (fun _ _ _ h => h) (Or.inl ⟨by rfl, ?_⟩) ?_ ?_
  rotate_left
  ·intro w'
   go_simp
   with_reducible rfl
  rotate_left
  ·simp only [Act.put, List.setIfInBounds_toArray, List.set_cons_zero, List.set_cons_succ, i64_w, i32_w]
   rfl
  refine take_ (i := 3) (N := some 21) (v := ?_) (a' := ?_) #[true, true, true, true, false, true, false, false, false, false, false] rfl rfl (by kernel_rfl) (fun _ _ _ h => h) (Or.inl ⟨by rfl, ?_⟩) hHeld ?_ ?_
  rotate_left
  ·rintro w' s0
   go_simp
   with_reducible rfl
  rotate_left
  ·simp only [Act.put, List.setIfInBounds_toArray, List.set_cons_zero, List.set_cons_succ, i64_w, i32_w]
   rfl
  refine one_ (i := 4) (N := some 22) #[true, true, true, true, true, true, false, false, false, false, false] rfl rfl (by kernel_rfl) (by decide) (fun K hK => ?_)
  refine Kd.R_lit_step k54 (w0 := w) w.heap.size 54 (by rfl) (N := 22) rfl (xs := ([] : List S54)) (inner := []) (ok := fun _ => True) (okp := fun _ => True) ?hr ?hp (fun _ hk => hk) trivial (below_drew1 (Below.refl _ _)) (Nat.le_refl _) (by simp) ?_
  case hr => first | (go_simp; done) | (go_simp; rfl)
  case hp => exact (Reps.none _ _)
  intro v4 w4 ho4 hb4 hg4 hn4; have hc4 : w4.cell? ⟨gb, 0, none⟩ = some v := (hb4.cell (World.block_lt_of_cell? w _ hcell)).trans hcell; refine hK.out _ _ hc4 (fun hHeld => ?_)
  clear hK K; refine na_ (some 22) ?_; refine one_ (i := 6) (N := some 24) #[true, true, true, true, true, true, true, false, false, false, false] rfl rfl (by kernel_rfl) (by decide) (fun K hK => ?_)
  refine Kd.R_append_rows_step k54 (Rr := k54.K w4) (w0 := w) w.heap.size (by rfl) (.tmp 22) (.tmp 23) 35 54 (.agg #[.int .i64 0, .int .i64 0]) 16 rfl Try.underlying35 info54 rfl (by decide) (by decide) v4 [] beg A2 beg.length c2 (fun _ => True) (fun _ => False) rfl rfl ho4 (Kd.C_below HC2.out hb4) (fun x cs h => by rw [k54_open h]; exact k54_mkM _ _ _ _) (fun _ hk => hk.elim) (fun _ _ => trivial) hb4 hb4.size (by simp only [List.length_nil]; have := HL2.out; omega) ?_
  intro v6 w6 ho6 hb6 hg6 hat6; rw [List.nil_append] at ho6
  obtain ⟨A6, c6, e6⟩ := Kd.R_slice ho6; subst e6; have hc6 : w6.cell? ⟨gb, 0, none⟩ = some v := (hb6.cell (World.block_lt_of_cell? w _ hcell)).trans hcell; refine hK.out _ _ hc6 (fun hHeld => ?_)
  clear hK K; refine na_ (some 24) ?_; refine one_ (i := 7) (N := some 25) #[true, true, true, true, true, true, true, true, false, false, false] rfl rfl (by kernel_rfl) (by decide) (fun K hK => ?_)
  refine value_ (w1 := w6.alloc (.cells #[.slice A6 beg.length c6] 35)) (v := .slice (some ⟨w6.heap.size, 0, none⟩) 1 1) (by rfl) rfl ?hrun ?hk
  case hrun => first | (go_simp; done) | (go_simp; rfl)
  refine hK.out _ _ (((below_alloc (Below.refl w6.heap.size w6) _).cell (World.block_lt_of_cell? _ _ hc6)).trans hc6) (fun hHeld => ?_)
  clear hK K; refine na_ (some 25) ?_; refine one_ (i := 8) (N := some 26) #[true, true, true, true, true, true, true, true, true, false, false] rfl rfl (by kernel_rfl) (by decide) (fun K hK => ?_)
  have hS6 := Kd.S_below HO.out hb6; refine Kd.S_append_step (Kd.slice 54 k54) (w0 := w0) w0.heap.size (by rfl) (.tmp 21) (.tmp 25) 39 35 (.slice none 0 0) 24 rfl Try.underlying39 info35 rfl (by decide) (by decide) v outs beg [.slice A6 beg.length c6] (fun k_ => k_ ≠ gb) (fun k_ => w.heap.size ≤ k_) rfl rfl ⟨_, rfl, Kd.R_lower (Kd.R_mono (Kd.R_bound ho6) (fun k_ hk => hk.2.1)) HB.out.size⟩ (fun k_ hk => ⟨fun e => by have := HG.out; omega, fun e => by have := Kd.S_lt HO.out k_ e.symm; omega⟩) (fun k_ hk => fun e => by have := HG.out; have := hb6.size; omega) (Kd.S_mono hS6 (fun k_ hk => ⟨hk.1, fun h => by have := hk.2; omega⟩)) (below_step HB.out hb6) (Nat.le_trans HB.out.size hb6.size) (by have := HLo.out; omega) ?_
  intro v8 w8 ho8 hb8 hg8 hat8; obtain ⟨A8, c8, e8⟩ := Kd.S_slice ho8; subst e8; have hgv : some gb ≠ v.ownBlock := Kd.S_away HO.out (fun k_ hk => hk.1)
  have hx8 : w8.heap[gb]? = some (.cells #[v] 39 (0, 0)) := (hg8.block gb (Nat.lt_of_lt_of_le HG.out hb6.size) hgv).trans (blk_below HX.out hb6); have hc8 : w8.cell? ⟨gb, 0, none⟩ = some v := (blk_cell hx8 0).trans rfl; have hf8 := blk_frozen hx8 0; refine hK.out _ _ hc8 (fun hHeld => ?_)
  clear hK K; refine na_ (some 26) ?_; refine pure_ (i := 9) (N := some 27) (v := ?_) (a' := ?_) #[true, true, true, true, true, true, true, true, true, true, false] rfl rfl (by kernel_rfl) (fun _ _ _ h => h) (Or.inl ⟨by rfl, ?_⟩) ?_ ?_
  rotate_left
  ·intro w'
   go_simp
   with_reducible rfl
  rotate_left
  ·simp only [Act.put, List.setIfInBounds_toArray, List.set_cons_zero, List.set_cons_succ, i64_w, i32_w]
   rfl
  refine last_ (i := 10) (N := none) #[true, true, true, true, true, true, true, true, true, true, true] rfl rfl (by kernel_rfl) (by decide) (fun K hK => ?_)
  refine skip_ (w1 := w8.setCell ⟨gb, 0, none⟩ (.slice A8 (outs ++ [beg]).length c8)) (by rfl) rfl ?hrun2 ?hk2
  case hrun2 => first | (go_simp; done) | (go_simp; rfl)
  refine hK.out _ _ ?_; clear hK K; refine done_ (by kernel_rfl) ?_
  try go_wp2
  (try simp only [Exit.inBlock, Exit.then]); refine bodyPost_ret (results_none rfl _ _ _) rfl ?_
  refine ⟨rfl, .slice A8 (outs ++ [beg]).length c8, blk_put (cs := #[v]) hx8 0 _ rfl, Kd.S_far (p := ⟨gb, 0, none⟩) ho8 (fun k_ hk => hk) _, hat8.imp id (fun ⟨b, h1, h2⟩ => ⟨b, h1, Nat.le_trans hb6.size h2⟩), below_set hb8 HGB.out, ?_, fun i hi hni => ?_⟩
  ·rw [show ∀ (W : World) (p : Addr) (u : Value), (W.setCell p u).heap.size = W.heap.size from fun W p u => by simp [World.setCell]]; exact Nat.le_trans hb6.size hg8.size
  ·exact (Below.heap_setCell w8 ⟨gb, 0, none⟩ _ i (fun e => hni (.inl e))).trans ((hg8.block i (Nat.lt_of_lt_of_le hi hb6.size) (fun e => hni (.inr e))).trans (hb6.block i hi))
 ·rw [if_neg hc] at h
  have hw3 : wrap64 (n - 3) = n - 3 := by simp only [wrap64]; omega
  rw [hw3] at hc
  have c2_ : ((beg.length : Int) == n - 3) = false := beq_eq_false_iff_ne.2 hc; have HG := Aside0.mk (blk_lt hx); have H1 := Aside0.mk hr1; have H2 := Aside0.mk hr2; have HC1 := Aside0.mk hc1; have HC2 := Aside0.mk hc2; have HAL := Aside0.mk hal; have HN := Aside0.mk (And.intro hn3 hn); have HBL := Aside0.mk (And.intro hbl hc); have HGB := Aside0.mk hgb; have H' := Aside0.mk h; have HX := Aside0.mk hx; have HO := Aside0.mk ho; have HB := Aside0.mk hB; have HK := Aside0.mk hk0; have HIH := Aside0.mk IH; clear hw3 hc hbl h hx hr1 hr2 hc1 hc2 hal hgb ho hB hk0 IH
  go_enter Try.func85, Try.ntmps85
  go_wp2
  clear c2_ hn3 hn
  go_loopg [30] k (fun kq v30 w' => ∃ (x30 : Int) (v1 : Value) (o1 : List (List S54)), v30 = .int .i64 x30 ∧ Aside0 (spec_poAll.loop kq n all beg o1 x30 = some r) ∧ Aside0 (kq ≤ k) ∧ Aside0 (w'.heap[gb]? = some (.cells #[v1] 39 (0, 0))) ∧ Aside0 (Kd.S (Kd.slice 54 k54) 35 w' w0.heap.size (fun k_ => k_ ≠ gb) v1 o1) ∧ Aside0 (v1.ownBlock = v.ownBlock ∨ ∃ b, v1.ownBlock = some b ∧ w.heap.size ≤ b) ∧ Aside0 (Below w0.heap.size w0 w') ∧ Aside0 (Kept w w' (fun k_ => k_ = gb ∨ some k_ = v.ownBlock)))
  case atStart => exact ⟨0, v, outs, rfl, H', ⟨Nat.le_refl _⟩, HX, HO, ⟨.inl rfl⟩, HB, HK⟩
  case round =>
   clear H' HX HO HB HK; obtain ⟨x30, v1, o1, rfl, HA, HK1, HX, HO, HV, HB, HK⟩ := hrel
   cases gk with
   | zero => exact absurd HA.out (by simp [spec_poAll.loop])
   | succ k1 =>
    have H := HA.out; clear HA
    simp only [spec_poAll.loop] at H
    by_cases c3 : x30 < (all.length : Int)
    ·rw [if_pos c3] at H
     by_cases c4 : 0 ≤ x30
     case neg => rw [if_neg c4] at H; cases H
     rw [if_pos c4] at H
     have c3b0 : decide (x30 < (all.length : Int)) = true := decide_eq_true c3; obtain ⟨ad, e1, hx0, hx1⟩ := at_T54 (H1.out wr HK.out) x30 c4 c3
     cases e1
     obtain ⟨y, hy⟩ : ∃ y, rd_T54 all x30 = y := ⟨_, rfl⟩; rw [hy] at H hx0 hx1
     have HA := Aside0.mk H; have h4 : wrap64 (x30 + 1) = x30 + 1 := by have := HAL.out; simp only [wrap64]; omega
     have p1 := eq_true c4; have q1 := eq_true c3; clear H hy
     go_wp2_with ((with_reducible refine gate_dst (N := 9) rfl ?_); refine box_event ?hg (N := 9) ?hd (cs := #[.int .i64 0, .int .i64 0]) (t := 54) ?hr ?_; (case hd => rfl); (case hg => rfl); (case hr => first | (go_simp; done) | (go_simp; rfl)); intro gv hgv w9 hbox hb; have BK := Aside0.mk hbox; have HB9 := Aside0.mk hb; have HGV := Aside0.mk (Nat.le_of_eq hgv.symm); clear hb hbox hgv; have hcz0 : w9.cell? ⟨gv, 0, none⟩ = some (.int .i64 0) := (blk_cell BK.out 0).trans rfl; have hcz1 : w9.cell? ⟨gv, 1, none⟩ = some (.int .i64 0) := (blk_cell BK.out 1).trans rfl; have hfz0 := blk_frozen BK.out 0; have hfz1 := blk_frozen BK.out 1)
     obtain ⟨w5, hw5⟩ : ∃ w5, (w9.setCell ⟨gv, 0, none⟩ (.int .i64 y.f0)).setCell ⟨gv, 1, none⟩ (.int .i64 y.f1) = w5 := ⟨_, rfl⟩; have hB5 : Below wr.heap.size wr w5 := by rw [← hw5]; exact below_set (below_set HB9.out HGV.out) HGV.out
     have hX5 : w5.heap[gv]? = some (.cells #[.int .i64 y.f0, .int .i64 y.f1] 54 (0, 0)) := by
      rw [← hw5]; refine blk_put (cs := #[.int .i64 y.f0, .int .i64 0]) ?_ 1 _ rfl; exact blk_put (cs := #[.int .i64 0, .int .i64 0]) BK.out 0 _ rfl
     rw [hw5]; clear hw5 hcz0 hcz1 hfz0 hfz1 BK HB9 hx0 hx1; have HK5 := Aside0.mk (show Kept w w5 (fun k_ => k_ = gb ∨ some k_ = v.ownBlock) from ⟨Nat.le_trans HK.out.1 hB5.size, fun i hi hn => (hB5.block i (Nat.lt_of_lt_of_le hi HK.out.1)).trans (HK.out.2 i hi hn)⟩)
     have HX5 := Aside0.mk (blk_below HX.out hB5); have HO5 := Aside0.mk (Kd.S_below HO.out hB5); have HB5 := Aside0.mk (below_step HB.out hB5); have HD5 := Aside0.mk hX5; have HC5 := Aside0.mk (Kd.C_below (H2.out wr HK.out) hB5); have hd0 : w5.cell? ⟨gv, 0, none⟩ = some (.int .i64 y.f0) := (blk_cell hX5 0).trans rfl; have hd1 : w5.cell? ⟨gv, 1, none⟩ = some (.int .i64 y.f1) := (blk_cell hX5 1).trans rfl; have HWS := Aside0.mk (Nat.le_trans HK.out.1 (Nat.le_refl wr.heap.size)); clear hB5 hX5 HK HX HO HB HGV
     go_loopg [10, 37] (beg.length + 1) (fun kq v10 v37 w' => ∃ (j : Int), v37 = .int .i64 j ∧ v10 = .bool (!((beg.take j.toNat).any fun e => spec_poAll.x y.f0 y.f1 e.f0 e.f1)) ∧ Aside0 ((0 ≤ j ∧ j ≤ beg.length) ∧ (kq : Int) + j = beg.length + 1) ∧ Aside0 (Below w5.heap.size w5 w'))
     case atStart => exact ⟨0, rfl, by simp, ⟨by omega⟩, ⟨Below.refl _ _⟩⟩
     case round =>
      obtain ⟨j, rfl, rfl, HJ, HBi⟩ := hrel
      by_cases c5 : j < (beg.length : Int)
      ·have c5b0 : decide (j < (beg.length : Int)) = true := decide_eq_true c5
       have p2 : 0 ≤ j := HJ.out.1.1; obtain ⟨ad2, e2, hz0, hz1⟩ := at_T54 HC5.out j p2 c5
       cases e2
       replace hz0 := (HBi.out.cell (World.block_lt_of_cell? w5 _ hz0)).trans hz0; replace hz1 := (HBi.out.cell (World.block_lt_of_cell? w5 _ hz1)).trans hz1
       have hL : beg.take (j.toNat + 1) = beg.take j.toNat ++ [rd_T54 beg j] := by
        have h1 : beg[j.toNat]? = some (rd_T54 beg j) := by
         have : j.toNat < beg.length := by omega
         simp [rd_T54, this]
        rw [List.take_add_one, h1]; rfl
       obtain ⟨z, hz⟩ : ∃ z, rd_T54 beg j = z := ⟨_, rfl⟩; rw [hz] at hz0 hz1 hL
       have HLt := Aside0.mk hL; have h5 : wrap64 (j + 1) = j + 1 := by have := HBL.out.1; have := HN.out; simp only [wrap64]; omega
       have e5 : (j + 1).toNat = j.toNat + 1 := by omega
       replace p2 := eq_true p2; have q2 := eq_true c5; clear hL hz
       cases hf : (beg.take j.toNat).any fun e => spec_poAll.x y.f0 y.f1 e.f0 e.f1 with
       | false =>
        go_wp2_with (first | ((with_reducible refine gate_dst (N := 12) rfl ?_); refine box_event ?hg (N := 12) ?hd (cs := #[.int .i64 0, .int .i64 0]) (t := 54) ?hr ?_; (case hd => rfl); (case hg => rfl); (case hr => first | (go_simp; done) | (go_simp; rfl)); intro gz hgz w9 hbox hb; have BK := Aside0.mk hbox; have HB9 := Aside0.mk hb; have HGZ := Aside0.mk (Nat.le_of_eq hgz.symm); clear hb hbox hgz; have hcz0 : w9.cell? ⟨gz, 0, none⟩ = some (.int .i64 0) := (blk_cell BK.out 0).trans rfl; have hcz1 : w9.cell? ⟨gz, 1, none⟩ = some (.int .i64 0) := (blk_cell BK.out 1).trans rfl; have hfz0 := blk_frozen BK.out 0; have hfz1 := blk_frozen BK.out 1; have HBz := Aside0.mk (show Below w5.heap.size w5 ((w9.setCell ⟨gz, 0, none⟩ (.int .i64 z.f0)).setCell ⟨gz, 1, none⟩ (.int .i64 z.f1)) from below_step HBi.out (below_set (below_set HB9.out HGZ.out) HGZ.out)); have hdv0 := (HBz.out.cell (World.block_lt_of_cell? w5 _ hd0)).trans hd0; have hdv1 := (HBz.out.cell (World.block_lt_of_cell? w5 _ hd1)).trans hd1) | (go_at_call 81; (with_reducible refine (spec_poCross.calls y.f0 y.f1 z.f0 z.f1 _ _ (spec_poAll.xf y.f0 y.f1 z.f0 z.f1)).mono ?_); rintro e w11 ⟨rfl, hb2⟩; have HB11 := Aside0.mk (below_step HBz.out hb2); clear hb2))
        go_roundg (gk - 1)
        case measure => have := HJ.out; omega
        case rel => exact ⟨j + 1, by first | rfl | (simp only [i64_w, h5]; done) | (simp [h5]; done), by rw [e5, HLt.out, List.any_append, hf]; simp, ⟨by have := HJ.out; omega⟩, HB11⟩
       | true =>
        go_wp2_with ((with_reducible refine gate_dst (N := 12) rfl ?_); refine box_event ?hg (N := 12) ?hd (cs := #[.int .i64 0, .int .i64 0]) (t := 54) ?hr ?_; (case hd => rfl); (case hg => rfl); (case hr => first | (go_simp; done) | (go_simp; rfl)); intro gz hgz w9 hbox hb; have BK := Aside0.mk hbox; have HB9 := Aside0.mk hb; have HGZ := Aside0.mk (Nat.le_of_eq hgz.symm); clear hb hbox hgz; have hcz0 : w9.cell? ⟨gz, 0, none⟩ = some (.int .i64 0) := (blk_cell BK.out 0).trans rfl; have hcz1 : w9.cell? ⟨gz, 1, none⟩ = some (.int .i64 0) := (blk_cell BK.out 1).trans rfl; have hfz0 := blk_frozen BK.out 0; have hfz1 := blk_frozen BK.out 1; have HBz := Aside0.mk (show Below w5.heap.size w5 ((w9.setCell ⟨gz, 0, none⟩ (.int .i64 z.f0)).setCell ⟨gz, 1, none⟩ (.int .i64 z.f1)) from below_step HBi.out (below_set (below_set HB9.out HGZ.out) HGZ.out)); have hdv0 := (HBz.out.cell (World.block_lt_of_cell? w5 _ hd0)).trans hd0; have hdv1 := (HBz.out.cell (World.block_lt_of_cell? w5 _ hd1)).trans hd1)
        go_roundg (gk - 1)
        case measure => have := HJ.out; omega
        case rel => exact ⟨j + 1, by first | rfl | (simp only [i64_w, h5]; done) | (simp [h5]; done), by rw [e5, HLt.out, List.any_append, hf]; simp, ⟨by have := HJ.out; omega⟩, HBz⟩
      ·have c5b0 : decide (j < (beg.length : Int)) = false := decide_eq_false c5
       have hje : beg.take j.toNat = beg := List.take_of_length_le (by omega)
       rw [hje]; have H := HA.out; clear HA
       cases hany : beg.any fun e => spec_poAll.x y.f0 y.f1 e.f0 e.f1 with
       | true =>
        rw [hany, if_pos rfl] at H
        have HA := Aside0.mk H; clear H
        go_wp2
        go_roundg k1
        case measure => have := HK1.out; omega
        case rel => exact ⟨wrap64 (x30 + 1), v1, o1, by first | rfl | (simp only [i64_w, h4]; done) | (simp [h4]; done), HA, ⟨by have := HK1.out; omega⟩, ⟨blk_below HX5.out HBi.out⟩, ⟨Kd.S_below HO5.out HBi.out⟩, HV, ⟨below_step HB5.out HBi.out⟩, ⟨⟨Nat.le_trans HK5.out.1 HBi.out.size, fun i hi hn => (HBi.out.block i (Nat.lt_of_lt_of_le hi HK5.out.1)).trans (HK5.out.2 i hi hn)⟩⟩⟩
       | false =>
        rw [hany, if_neg (by decide)] at H
        obtain ⟨o2, hl, H⟩ := Option.bind_eq_some_iff.1 H; have HA := Aside0.mk H; have HLk := Aside0.mk hl; clear H hl; have HKr := Aside0.mk (show Kept w wr (fun k_ => k_ = gb ∨ some k_ = v.ownBlock) from ⟨Nat.le_trans HK5.out.1 HBi.out.size, fun i hi hn => (HBi.out.block i (Nat.lt_of_lt_of_le hi HK5.out.1)).trans (HK5.out.2 i hi hn)⟩)
        have HXr := Aside0.mk (blk_below HX5.out HBi.out); have HOr := Aside0.mk (Kd.S_below HO5.out HBi.out); have HBr := Aside0.mk (below_step HB5.out HBi.out); have HC2r := Aside0.mk (Kd.C_below HC5.out HBi.out); have hdv0 := (HBi.out.cell (World.block_lt_of_cell? w5 _ hd0)).trans hd0; have hdv1 := (HBi.out.cell (World.block_lt_of_cell? w5 _ hd1)).trans hd1; clear hd0 hd1 HK5 HX5 HO5 HB5 HC5 HD5 HWS hje HJ; obtain ⟨m, hm⟩ : ∃ m : Nat, x30 = (m : Int) := ⟨x30.toNat, by omega⟩
        subst hm; have hmn : m + 1 ≤ all.length := by omega
        have hmc : m + 1 ≤ c1 := Nat.le_trans hmn HC1.out; have u1 : (m + 1 ≤ all.length) = True := eq_true hmn; have u2 : (m + 1 ≤ c1) = True := eq_true hmc; have u3 : (all.length ≤ c1) = True := eq_true HC1.out; have u4 : ((m : Int) + 1 ≤ (all.length : Int)) = True := eq_true (by omega)
        have u5 : ((m : Int) + 1 ≤ (c1 : Int)) = True := eq_true (by omega)
        have u6 : (0 ≤ (m : Int) + 1) = True := eq_true (by omega)
        have u7 : ((m : Int) + 1).toNat = m + 1 := by omega
        go_wp2
        refine start_ (n := 13) (S := fun w' => w'.cell? ⟨gv, 0, none⟩ = some (.int .i64 y.f0) ∧ w'.cell? ⟨gv, 1, none⟩ = some (.int .i64 y.f1)) (ds := [12]) #[false, false, false, false, false, false, false, false, false, false, false, false, false] (by kernel_rfl) rfl rfl ⟨hdv0, hdv1⟩ (fun hHeld => ?_)
        refine pure_ (i := 0) (N := some 50) (v := ?_) (a' := ?_) #[true, false, false, false, false, false, false, false, false, false, false, false, false] rfl rfl (by kernel_rfl) (fun _ _ _ h => h) (Or.inl ⟨by rfl, ?_⟩) ?_ ?_
        rotate_left
        ·intro w'
         go_simp
         with_reducible rfl
        rotate_left
        ·simp only [Act.put, List.setIfInBounds_toArray, List.set_cons_zero, List.set_cons_succ, i64_w, i32_w]
         rfl
        refine pure_ (i := 1) (N := some 51) (v := ?_) (a' := ?_) #[true, true, false, false, false, false, false, false, false, false, false, false, false] rfl rfl (by kernel_rfl) (fun _ _ _ h => h) (Or.inl ⟨by rfl, ?_⟩) ?_ ?_
        rotate_left
        ·intro w'
         go_simp
         with_reducible rfl
        rotate_left
        ·simp only [Act.put, List.setIfInBounds_toArray, List.set_cons_zero, List.set_cons_succ, i64_w, i32_w]
         rfl
        refine pure_ (i := 2) (N := some 52) (v := ?_) (a' := ?_) #[true, true, true, false, false, false, false, false, false, false, false, false, false] rfl rfl (by kernel_rfl) (fun _ _ _ h => h) (Or.inl ⟨by rfl, ?_⟩) ?_ ?_
        rotate_left
        ·intro w'
         go_simp
         with_reducible rfl
        rotate_left
        ·simp only [Act.put, List.setIfInBounds_toArray, List.set_cons_zero, List.set_cons_succ, i64_w, i32_w]
         rfl
        refine pure_ (i := 3) (N := some 53) (v := ?_) (a' := ?_) #[true, true, true, true, false, false, false, false, false, false, false, false, false] rfl rfl (by kernel_rfl) (fun _ _ _ h => h) (Or.inl ⟨by rfl, ?_⟩) ?_ ?_
        rotate_left
        ·intro w'
         go_simp
         with_reducible rfl
        rotate_left
        ·simp only [Act.put, List.setIfInBounds_toArray, List.set_cons_zero, List.set_cons_succ, i64_w, i32_w]
         rfl
        refine pure_ (i := 4) (N := some 54) (v := ?_) (a' := ?_) #[true, true, true, true, true, false, false, false, false, false, false, false, false] rfl rfl (by kernel_rfl) (fun _ _ _ h => h) (Or.inl ⟨by rfl, ?_⟩) ?_ ?_
        rotate_left
        ·intro w'
         go_simp
         with_reducible rfl
        rotate_left
        ·simp only [Act.put, List.setIfInBounds_toArray, List.set_cons_zero, List.set_cons_succ, i64_w, i32_w]
         rfl
        refine pure_ (i := 6) (N := some 56) (v := ?_) (a' := ?_) #[true, true, true, true, true, false, true, false, false, false, false, false, false] rfl rfl (by kernel_rfl) (fun _ _ _ h => h) (Or.inl ⟨by rfl, ?_⟩) ?_ ?_
        rotate_left
        ·intro w'
         go_simp
         with_reducible rfl
        rotate_left
        ·simp only [Act.put, List.setIfInBounds_toArray, List.set_cons_zero, List.set_cons_succ, i64_w, i32_w]
         rfl
        refine pure_ (i := 11) (N := some 61) (v := ?_) (a' := ?_) #[true, true, true, true, true, false, true, false, false, false, false, true, false] rfl rfl (by kernel_rfl) (fun _ _ _ h => h) (Or.inl ⟨by rfl, ?_⟩) ?_ ?_
        rotate_left
        ·intro w'
         go_simp
         with_reducible rfl
        rotate_left
        ·simp only [Act.put, List.setIfInBounds_toArray, List.set_cons_zero, List.set_cons_succ, i64_w, i32_w]
         rfl
        refine take_ (i := 8) (N := some 58) (v := ?_) (a' := ?_) #[true, true, true, true, true, false, true, false, true, false, false, true, false] rfl rfl (by kernel_rfl) (fun _ _ _ h => h) (Or.inl ⟨by rfl, ?_⟩) hHeld ?_ ?_
        rotate_left
        ·rintro w' ⟨s0, s1⟩
         go_simp
         with_reducible rfl
        rotate_left
        ·simp only [Act.put, List.setIfInBounds_toArray, List.set_cons_zero, List.set_cons_succ, i64_w, i32_w]
         rfl
        refine join_ (σ := Value × Value × Value) 2 #[true, true, true, true, true, true, true, true, true, true, false, true, false] (fun s_ => [(55, s_.1), (57, s_.2.1), (59, s_.2.2)]) (fun s_ w' => Kd.R k54 54 w' wr.heap.size (fun _ => True) s_.2.1 beg ∧ Kd.R k54 54 w' wr.heap.size (fun _ => True) s_.2.2 [y] ∧ Below wr.heap.size wr w') ?hcont ?hj
        case hcont =>
         rintro ⟨v55, v57, v59⟩ w6 ⟨r7, r9, hb6⟩
         obtain ⟨A9, c9, e9⟩ := Kd.R_slice r9; have e9' : v59 = .slice A9 [y].length c9 := e9; clear e9; subst e9'; refine norm_ (a' := ?_) ?_ ?_; rotate_left
         ·simp only [putAll, Act.put, List.setIfInBounds_toArray, List.set_cons_zero, List.set_cons_succ]
          rfl
         refine one_ (i := 10) (N := some 60) #[true, true, true, true, true, true, true, true, true, true, true, true, false] rfl rfl (by kernel_rfl) (by decide) (fun K hK => ?_)
         refine Kd.R_append_rows_step k54 (Rr := k54.K w6) (w0 := wr) wr.heap.size (by rfl) (.tmp 57) (.tmp 59) 35 54 (.agg #[.int .i64 0, .int .i64 0]) 16 rfl Try.underlying35 info54 rfl (by decide) (by decide) v57 beg [y] A9 [y].length c9 (fun _ => True) (fun _ => False) rfl rfl r7 (Kd.R_reads' r9).2.2 (fun x cs h => by rw [k54_open h]; exact k54_mkM _ _ _ _) (fun _ hk => hk.elim) (fun _ _ => trivial) hb6 hb6.size (by simp only [List.length_singleton]; have := HBL.out.1; have := HN.out; omega) ?_
         intro v10 w10 ho10 hb10 hg10 hat10; obtain ⟨A10, c10, e10⟩ := Kd.R_slice ho10; subst e10; refine hK.out _ _ ⟨(hb10.cell (World.block_lt_of_cell? wr _ hdv0)).trans hdv0, (hb10.cell (World.block_lt_of_cell? wr _ hdv1)).trans hdv1⟩ (fun hHeld => ?_)
         clear hK K; refine na_ (some 60) ?_
         have HKc : ∀ W' : World, Kept w10 W' (fun k_ => k_ = gb ∨ some k_ = v1.ownBlock) → Kept w W' (fun k_ => k_ = gb ∨ some k_ = v.ownBlock) := by
          intro W' hk; refine ⟨Nat.le_trans HKr.out.1 (Nat.le_trans hb10.size hk.1), fun i hi hn => ?_⟩
          have hi2 : i < wr.heap.size := Nat.lt_of_lt_of_le hi HKr.out.1; refine (hk.2 i (Nat.lt_of_lt_of_le hi2 hb10.size) (fun h => ?_)).trans ((hb10.block i hi2).trans (HKr.out.2 i hi hn))
          rcases h with h | h
          ·exact hn (.inl h)
          ·rcases HV.out with hv | ⟨b_, hv, hb_⟩
           ·exact hn (.inr (h.trans hv))
           ·rw [hv] at h
            have := Option.some.inj h
            omega
         have hgr : gb < wr.heap.size := blk_lt HXr.out; have hvr : ∀ k_, v1.ownBlock = some k_ → k_ < wr.heap.size := Kd.S_lt HOr.out; have hLk : spec_poAll.look k1 n (all.drop (m + 1)) (beg ++ [y]) o1 = some o2 := by have h_ := HLk.out; rwa [u7] at h_
         have hrec := HIH.out k1 (by have := HK1.out; omega) n (if c1 = m + 1 then some ad else some (ad.add ((m + 1) * 2))) (c1 - (m + 1)) (all.drop (m + 1)) A10 c10 (beg ++ [y]) gb v1 o1 o2 w0 w10 HN.out.1 HN.out.2 (by rw [List.length_drop]; have := HAL.out; omega) (by rw [List.length_append, List.length_singleton]; have := HBL.out; omega) (below_step HBr.out hb10) HGB.out (blk_below HXr.out hb10) (Kd.S_below HOr.out hb10)
          (fun W' hk => Kd.C_drop (H1.out W' (HKc W' hk)) hmn HC1.out) (by rw [List.length_drop]; have := HC1.out; omega)
          (fun W' hk => (Kd.R_reads' (Kd.R_kept (Kd.R_mono (Kd.R_bound ho10) (ok' := fun k_ => wr.heap.size ≤ k_) (fun k_ hk => hk.2.1)) hk (fun k_ hk h => by
           rcases h with h | h
           ·omega
           ·have := hvr k_ h.symm; omega))).2.2) (Kd.R_reads' ho10).2.1 hLk
         refine last_ (i := 12) (N := some 62) #[true, true, true, true, true, true, true, true, true, true, true, true, true] rfl rfl (by kernel_rfl) (by decide) (fun K hK => ?_)
         refine goes_ Try.func85 (by kernel_rfl) rfl #[.int .i64 n, .slice (if c1 = m + 1 then some ad else some (ad.add ((m + 1) * 2))) (all.drop (m + 1)).length (c1 - (m + 1)), .slice A10 (beg ++ [y]).length c10, .pointer (some ⟨gb, 0, none⟩)] (by rfl) rfl rfl (by (try simp only [List.map_toArray, List.map_cons, List.map_nil]); first | done | rfl | (simp only [List.length_drop, List.length_take]; rfl)) ?_
         refine hrec.mono ?_
         rintro e w12 ⟨rfl, v2, hx12, ho12, hv12, hb12, hk12⟩
         refine ⟨_, rfl, ?_⟩; refine hK.out _ _ ?_; clear hK K; refine na_ (some 62) ?_; generalize (if c1 = m + 1 then some ad else some (ad.add ((m + 1) * 2))) = A4_
         refine done_ (by kernel_rfl) ?_
         try go_wp2
         go_roundg k1
         case measure => have := HK1.out; omega
         case rel => exact ⟨wrap64 ((m : Int) + 1), v2, o2, by first | rfl | (simp only [i64_w, h4]; done) | (simp [h4]; done), HA, ⟨by have := HK1.out; omega⟩, ⟨hx12⟩, ⟨ho12⟩, ⟨hv12.elim (fun e_ => HV.out.elim (fun e2_ => .inl (e_.trans e2_)) (fun ⟨b_, h1_, h2_⟩ => .inr ⟨b_, e_.trans h1_, h2_⟩)) (fun ⟨b_, h1_, h2_⟩ => .inr ⟨b_, h1_, Nat.le_trans (Nat.le_trans HKr.out.1 hb10.size) h2_⟩)⟩, ⟨hb12⟩, ⟨HKc w12 hk12⟩⟩
        case hj =>
         intro hcont; refine two_ (i := 5) (j := 9) (Ni := some 55) (Nj := some 59) #[true, true, true, true, true, true, true, false, true, false, false, true, false] #[true, true, true, true, true, false, true, false, true, true, false, true, false] rfl rfl rfl rfl (by kernel_rfl) (by decide) (by decide) (fun K hK => ?_) (fun K hK => ?_)
         ·refine Kd.R_lit_step k54 (w0 := wr) wr.heap.size 54 (by rfl) (N := 55) rfl (xs := ([] : List S54)) (inner := []) (ok := fun _ => True) (okp := fun _ => True) ?hr1 ?hp1 (fun _ hk => hk) trivial (below_drew1 (Below.refl _ _)) (Nat.le_refl _) (by simp) ?_
          case hr1 => first | (go_simp; done) | (go_simp; rfl)
          case hp1 => exact (Reps.none _ _)
          intro v5a w5a ho5a hb5a hg5a hn5a; refine hK.out _ _ ⟨(hb5a.cell (World.block_lt_of_cell? wr _ hdv0)).trans hdv0, (hb5a.cell (World.block_lt_of_cell? wr _ hdv1)).trans hdv1⟩ (fun hHeld => ?_)
          clear hK K; refine na_ (some 55) ?_; refine two_ (i := 7) (j := 9) (Ni := some 57) (Nj := some 59) #[true, true, true, true, true, true, true, true, true, false, false, true, false] #[true, true, true, true, true, true, true, false, true, true, false, true, false] rfl rfl rfl rfl (by kernel_rfl) (by decide) (by decide) (fun K hK => ?_) (fun K hK => ?_)
          ·refine Kd.R_append_rows_step k54 (Rr := k54.K w5a) (w0 := wr) wr.heap.size (by rfl) (.tmp 55) (.tmp 56) 35 54 (.agg #[.int .i64 0, .int .i64 0]) 16 rfl Try.underlying35 info54 rfl (by decide) (by decide) v5a [] beg A2 beg.length c2 (fun _ => True) (fun _ => False) rfl rfl ho5a (Kd.C_below HC2r.out hb5a) (fun x cs h => by rw [k54_open h]; exact k54_mkM _ _ _ _) (fun _ hk => hk.elim) (fun _ _ => trivial) hb5a hb5a.size (by simp only [List.length_nil]; have := HBL.out.1; have := HN.out; omega) ?_
           intro v7a w7a ho7a hb7a hg7a hat7a; rw [List.nil_append] at ho7a
           refine hK.out _ _ ⟨(hb7a.cell (World.block_lt_of_cell? wr _ hdv0)).trans hdv0, (hb7a.cell (World.block_lt_of_cell? wr _ hdv1)).trans hdv1⟩ (fun hHeld => ?_)
           clear hK K; refine na_ (some 57) ?_; refine one_ (i := 9) (N := some 59) #[true, true, true, true, true, true, true, true, true, true, false, true, false] rfl rfl (by kernel_rfl) (by decide) (fun K hK => ?_)
           refine Kd.R_lit_step k54 (w0 := wr) wr.heap.size 54 (by rfl) (N := 59) rfl (xs := ([y] : List S54)) (inner := [.int .i64 y.f0, .int .i64 y.f1]) (ok := fun _ => True) (okp := fun _ => True) ?hr2 ?hp2 (fun _ hk => hk) trivial hb7a hb7a.size (by simp) ?_
           case hr2 => first | (go_simp; done) | (go_simp; rfl)
           case hp2 => exact (Reps.snoc (Reps.none _ _) (k54_mkM _ _ _ y) rfl)
           intro v9a w9a ho9a hb9a hg9a hn9a; refine hK.out _ _ ⟨(hb9a.cell (World.block_lt_of_cell? wr _ hdv0)).trans hdv0, (hb9a.cell (World.block_lt_of_cell? wr _ hdv1)).trans hdv1⟩ (fun hHeld => ?_)
           exact hcont (v5a, v7a, v9a) w9a ⟨Kd.R_grown ho7a hg9a (fun _ _ => by simp), ho9a, hb9a⟩
          ·refine Kd.R_lit_step k54 (w0 := w5a) w5a.heap.size 54 (by rfl) (N := 59) rfl (xs := ([y] : List S54)) (inner := [.int .i64 y.f0, .int .i64 y.f1]) (ok := fun _ => True) (okp := fun _ => True) ?hr3 ?hp3 (fun _ hk => hk) trivial (Below.refl _ _) (Nat.le_refl _) (by simp) ?_
           case hr3 => first | (go_simp; done) | (go_simp; rfl)
           case hp3 => exact (Reps.snoc (Reps.none _ _) (k54_mkM _ _ _ y) rfl)
           intro v9b w9b ho9b hb9b hg9b hn9b; have hb9c := below_step hb5a hb9b; refine hK.out _ _ ⟨(hb9c.cell (World.block_lt_of_cell? wr _ hdv0)).trans hdv0, (hb9c.cell (World.block_lt_of_cell? wr _ hdv1)).trans hdv1⟩ (fun hHeld => ?_)
           clear hK K; refine na_ (some 59) ?_; refine one_ (i := 7) (N := some 57) #[true, true, true, true, true, true, true, true, true, true, false, true, false] rfl rfl (by kernel_rfl) (by decide) (fun K hK => ?_)
           refine Kd.R_append_rows_step k54 (Rr := k54.K w9b) (w0 := wr) wr.heap.size (by rfl) (.tmp 55) (.tmp 56) 35 54 (.agg #[.int .i64 0, .int .i64 0]) 16 rfl Try.underlying35 info54 rfl (by decide) (by decide) v5a [] beg A2 beg.length c2 (fun _ => True) (fun _ => False) rfl rfl (Kd.R_below ho5a hb9b) (Kd.C_below HC2r.out hb9c) (fun x cs h => by rw [k54_open h]; exact k54_mkM _ _ _ _) (fun _ hk => hk.elim) (fun _ _ => trivial) hb9c hb9c.size (by simp only [List.length_nil]; have := HBL.out.1; have := HN.out; omega) ?_
           intro v7b w7b ho7b hb7b hg7b hat7b; rw [List.nil_append] at ho7b
           refine hK.out _ _ ⟨(hb7b.cell (World.block_lt_of_cell? wr _ hdv0)).trans hdv0, (hb7b.cell (World.block_lt_of_cell? wr _ hdv1)).trans hdv1⟩ (fun hHeld => ?_)
           exact hcont (v5a, v7b, v9b) w7b ⟨ho7b, Kd.R_lower (Kd.R_mono (Kd.R_grown (Kd.R_mono (Kd.R_bound ho9b) (ok' := fun k_ => w5a.heap.size ≤ k_) (fun k_ hk => hk.2.1)) hg7b (fun k_ hk e => by have := Kd.R_lt ho5a k_ e.symm; omega)) (fun _ _ => trivial)) hb5a.size, hb7b⟩
         ·refine Kd.R_lit_step k54 (w0 := wr) wr.heap.size 54 (by rfl) (N := 59) rfl (xs := ([y] : List S54)) (inner := [.int .i64 y.f0, .int .i64 y.f1]) (ok := fun _ => True) (okp := fun _ => True) ?hr4 ?hp4 (fun _ hk => hk) trivial (below_drew1 (Below.refl _ _)) (Nat.le_refl _) (by simp) ?_
          case hr4 => first | (go_simp; done) | (go_simp; rfl)
          case hp4 => exact (Reps.snoc (Reps.none _ _) (k54_mkM _ _ _ y) rfl)
          intro v9d w9d ho9d hb9d hg9d hn9d; refine hK.out _ _ ⟨(hb9d.cell (World.block_lt_of_cell? wr _ hdv0)).trans hdv0, (hb9d.cell (World.block_lt_of_cell? wr _ hdv1)).trans hdv1⟩ (fun hHeld => ?_)
          clear hK K; refine na_ (some 59) ?_; refine one_ (i := 5) (N := some 55) #[true, true, true, true, true, true, true, false, true, true, false, true, false] rfl rfl (by kernel_rfl) (by decide) (fun K hK => ?_)
          refine Kd.R_lit_step k54 (w0 := w9d) w9d.heap.size 54 (by rfl) (N := 55) rfl (xs := ([] : List S54)) (inner := []) (ok := fun _ => True) (okp := fun _ => True) ?hr5 ?hp5 (fun _ hk => hk) trivial (Below.refl _ _) (Nat.le_refl _) (by simp) ?_
          case hr5 => first | (go_simp; done) | (go_simp; rfl)
          case hp5 => exact (Reps.none _ _)
          intro v5d w5d ho5d hb5d hg5d hn5d; have hb5e := below_step hb9d hb5d; refine hK.out _ _ ⟨(hb5e.cell (World.block_lt_of_cell? wr _ hdv0)).trans hdv0, (hb5e.cell (World.block_lt_of_cell? wr _ hdv1)).trans hdv1⟩ (fun hHeld => ?_)
          clear hK K; refine na_ (some 55) ?_; refine one_ (i := 7) (N := some 57) #[true, true, true, true, true, true, true, true, true, true, false, true, false] rfl rfl (by kernel_rfl) (by decide) (fun K hK => ?_)
          refine Kd.R_append_rows_step k54 (Rr := k54.K w5d) (w0 := w9d) w9d.heap.size (by rfl) (.tmp 55) (.tmp 56) 35 54 (.agg #[.int .i64 0, .int .i64 0]) 16 rfl Try.underlying35 info54 rfl (by decide) (by decide) v5d [] beg A2 beg.length c2 (fun _ => True) (fun _ => False) rfl rfl ho5d (Kd.C_below HC2r.out hb5e) (fun x cs h => by rw [k54_open h]; exact k54_mkM _ _ _ _) (fun _ hk => hk.elim) (fun _ _ => trivial) hb5d hb5d.size (by simp only [List.length_nil]; have := HBL.out.1; have := HN.out; omega) ?_
          intro v7d w7d ho7d hb7d hg7d hat7d; rw [List.nil_append] at ho7d
          have hb7e := below_step hb9d hb7d; refine hK.out _ _ ⟨(hb7e.cell (World.block_lt_of_cell? wr _ hdv0)).trans hdv0, (hb7e.cell (World.block_lt_of_cell? wr _ hdv1)).trans hdv1⟩ (fun hHeld => ?_)
          exact hcont (v5d, v7d, v9d) w7d ⟨Kd.R_lower ho7d hb9d.size, Kd.R_below ho9d hb7d, hb7e⟩
    ·rw [if_neg c3] at H
     obtain rfl := Option.some.inj H; have c3b0 : decide (x30 < (all.length : Int)) = false := decide_eq_false c3
     go_wp2
     go_end0
     exact ⟨rfl, v1, HX.out, HO.out, HV.out, HB.out, HK.out⟩
set_option maxHeartbeats 8000000 in
set_option maxRecDepth 100000 in
theorem spec_poAll.calls (k : Nat) (a0 : Int) (r : List (List S54)) (w : World) (h : spec_poAll.f k a0 = some r) :
  Calls Try.prog 58 #[.int .i64 a0] w fun e w' => ∃ v0_ : Value, e = .returned (v0_) ∧ Kd.S (Kd.slice 54 k54) 35 w' w.heap.size (fun _ => True) v0_ r ∧ Below w.heap.size w w' := by
 have hu := Try.underlying54; have HB := Aside0.mk (Below.refl w.heap.size w); have H' := Aside0.mk (show spec_poAll.l0 k a0 [] 0 = some r from h)
 clear h
 go_enter Try.func58, Try.ntmps58
 go_wp2
 go_loopg [3, 4] k (fun kq v3 v4 w' => ∃ (x3 : List S54) (x4 : Int), v4 = .int .i64 x4 ∧ Aside0 (spec_poAll.l0 kq a0 x3 x4 = some r) ∧ Aside0 (kq ≤ k) ∧ Aside0 (Kd.R k54 54 w' w.heap.size (fun _ => True) v3 x3) ∧ Aside0 (Below w.heap.size w w'))
 case atStart => exact ⟨[], 0, rfl, H', ⟨Nat.le_refl _⟩, ⟨Kd.R_nil _ _ _ _ _⟩, HB⟩
 case round =>
  clear H' HB; obtain ⟨x3, x4, rfl, HA, HK1, HO, HB⟩ := hrel
  cases gk with
  | zero => exact absurd HA.out (by simp [spec_poAll.l0])
  | succ k1 =>
   have H := HA.out; clear HA
   simp only [spec_poAll.l0] at H
   by_cases c3 : x4 < a0
   ·rw [if_pos c3] at H
    have c3b0 : decide (x4 < a0) = true := decide_eq_true c3; have HA := Aside0.mk H; clear H
    go_wp2
    go_loopg [3, 5] k1 (fun kq v3 v5 w' => ∃ (y3 : List S54) (y5 : Int), v5 = .int .i64 y5 ∧ Aside0 (spec_poAll.l1 kq a0 y3 x4 y5 = some r) ∧ Aside0 (kq ≤ k1) ∧ Aside0 (Kd.R k54 54 w' w.heap.size (fun _ => True) v3 y3) ∧ Aside0 (Below w.heap.size w w'))
    case atStart => exact ⟨x3, wrap64 (x4 + 2), fs_, HA, ⟨Nat.le_refl _⟩, HO, HB⟩
    case round =>
     clear HA HO HB; obtain ⟨y3, y5, rfl, HA, HK2, HO, HB⟩ := hrel
     cases gk with
     | zero => exact absurd HA.out (by simp [spec_poAll.l1])
     | succ k2 =>
      have H := HA.out; clear HA
      simp only [spec_poAll.l1] at H
      by_cases c5 : y5 < a0
      ·rw [if_pos c5] at H
       have c5b0 : decide (y5 < a0) = true := decide_eq_true c5; obtain ⟨t, ht, H⟩ := Option.bind_eq_some_iff.1 H; have HT := Aside0.mk ht; clear ht
       cases t with
       | true =>
        rw [if_pos rfl] at H
        by_cases c6 : y3.length < 5864062014805
        case neg => rw [if_neg c6] at H; cases H
        rw [if_pos c6] at H
        have HLM := Aside0.mk c6; have HA := Aside0.mk H; clear H c6
        go_wp2_with (first | ((with_reducible refine gate_dst (N := 6) rfl ?_); refine box_event ?hg (N := 6) ?hd (cs := #[.int .i64 0, .int .i64 0]) (t := 54) ?hr ?_; (case hd => rfl); (case hg => rfl); (case hr => first | (go_simp; done) | (go_simp; rfl)); intro gb hgb w9 hbox hb; have HO9 := Aside0.mk (Kd.R_below (Kd.R_elderB (kr_ HO.out) gb (Nat.le_of_eq hgb.symm)) hb); have GE := Aside0.mk ((by rw [hgb]; exact (below_size (bl_ HB.out)) : w.heap.size ≤ gb)); have BK := Aside0.mk hbox; have HB9 := Aside0.mk (below_step (bl_ HB.out) hb); clear hb hbox hgb; have hcz0 : w9.cell? ⟨gb, 0, none⟩ = some (.int .i64 0) := (blk_cell BK.out 0).trans rfl; have hcz1 : w9.cell? ⟨gb, 1, none⟩ = some (.int .i64 0) := (blk_cell BK.out 1).trans rfl; have hfz0 := blk_frozen BK.out 0; have hfz1 := blk_frozen BK.out 1) | ((with_reducible refine gate_callee (f := 79) rfl ?_); refine goesL_ (some 25) rfl rfl Try.func79 (by kernel_rfl) rfl #[.int .i64 a0, .agg #[.int .i64 x4, .int .i64 y5]] rfl (by (try simp only [List.map_toArray, List.map_cons, List.map_nil]); first | done | rfl) ?_; (with_reducible refine (spec_poDiagonal.calls a0 x4 y5 true _ HT.out).mono ?_); rintro e w11 ⟨rfl, hb⟩; refine ⟨_, rfl, ?_⟩; have HO11 := Aside0.mk (Kd.R_below (by (with_reducible repeat (first | apply Kd.R_alloc | apply Kd.R_drewN | apply Kd.R_drew)); exact (Kd.R_mono (Kd.R_far (p := ⟨gb, 1, none⟩) (Kd.R_far (p := ⟨gb, 0, none⟩) (Kd.R_mono HO9.out (fun k_ hk => (⟨hk, hk.2⟩ : _ ∧ k_ ≠ gb))) (fun _ hk => hk.2) (.int .i64 x4)) (fun _ hk => hk.2) (.int .i64 y5)) (ok' := fun k_ => k_ ≠ gb) (fun _ hk => hk.2))) hb); have BK11 := Aside0.mk (blk_below (g := gb) (o := .cells #[.int .i64 x4, .int .i64 y5] 54 (0, 0)) (by (with_reducible repeat (first | refine blk_drewN ?_ _ | refine blk_drew ?_ | refine blk_alloc ?_ _)); refine blk_put (cs := #[.int .i64 x4, .int .i64 0]) ?_ 1 _ rfl; (with_reducible repeat (first | refine blk_drewN ?_ _ | refine blk_drew ?_ | refine blk_alloc ?_ _)); refine blk_put (cs := #[.int .i64 0, .int .i64 0]) ?_ 0 _ rfl; (with_reducible repeat (first | refine blk_drewN ?_ _ | refine blk_drew ?_ | refine blk_alloc ?_ _)); exact BK.out) hb); have HB11 := Aside0.mk (below_step (bs_ HB9.out GE.out) hb); clear hb; have hdz0 : w11.cell? ⟨gb, 0, none⟩ = some (.int .i64 x4) := (blk_cell BK11.out 0).trans rfl; have hdz1 : w11.cell? ⟨gb, 1, none⟩ = some (.int .i64 y5) := (blk_cell BK11.out 1).trans rfl) | ((with_reducible refine gate_builtin (b := .append) (xs := #[.tmp 26, .tmp 28]) rfl ?_); at_builtin; refine Kd.R_append k54 (w0 := w) w.heap.size rfl (.tmp 26) (.tmp 28) 35 54 (.agg #[(.int .i64 0), (.int .i64 0)]) 16 rfl Try.underlying35 info54 rfl (by decide) (by omega) u3 y3 (⟨x4, y5⟩ : S54) [.int .i64 x4, .int .i64 y5] (fun k_ => k_ ≠ gb) (fun _ => False) rfl rfl ?aP (fun _ hk => hk.elim) ?aF ?aO ?aB ?aS ?aL ?_; (case aP => exact k54_mkM _ _ _ (⟨x4, y5⟩ : S54)); (case aB => exact (bs_ HB11.out GE.out)); (case aF => exact (fun k_ hk => Kd.freshB (g := gb) (o := .cells #[.int .i64 x4, .int .i64 y5] 54 (0, 0)) (bk_ BK11.out) k_ hk)); (case aO => exact (kr_ HO11.out)); (case aS => exact (below_size (bs_ HB11.out GE.out))); (case aL => have := HLM.out; omega); intro v13 w13 ho hb hg hat; have HO13 := Aside0.mk ho; have HB13 := Aside0.mk hb; clear ho hb hg hat))
        go_roundg k2
        case measure => have := HK2.out; omega
        case rel => exact ⟨y3 ++ [⟨x4, y5⟩], wrap64 (y5 + 1), fs_, HA, ⟨by have := HK2.out; omega⟩, ⟨by (with_reducible repeat (first | apply Kd.R_alloc | apply Kd.R_drewN | apply Kd.R_drew)); exact Kd.R_mono HO13.out (fun _ _ => trivial)⟩, ⟨bs_ HB13.out GE.out⟩⟩
       | false =>
        rw [if_neg (by decide)] at H
        have HA := Aside0.mk H; clear H
        go_wp2_with (first | ((with_reducible refine gate_dst (N := 6) rfl ?_); refine box_event ?hg (N := 6) ?hd (cs := #[.int .i64 0, .int .i64 0]) (t := 54) ?hr ?_; (case hd => rfl); (case hg => rfl); (case hr => first | (go_simp; done) | (go_simp; rfl)); intro gb hgb w9 hbox hb; have HO9 := Aside0.mk (Kd.R_below (Kd.R_elderB (kr_ HO.out) gb (Nat.le_of_eq hgb.symm)) hb); have GE := Aside0.mk ((by rw [hgb]; exact (below_size (bl_ HB.out)) : w.heap.size ≤ gb)); have BK := Aside0.mk hbox; have HB9 := Aside0.mk (below_step (bl_ HB.out) hb); clear hb hbox hgb; have hcz0 : w9.cell? ⟨gb, 0, none⟩ = some (.int .i64 0) := (blk_cell BK.out 0).trans rfl; have hcz1 : w9.cell? ⟨gb, 1, none⟩ = some (.int .i64 0) := (blk_cell BK.out 1).trans rfl; have hfz0 := blk_frozen BK.out 0; have hfz1 := blk_frozen BK.out 1) | ((with_reducible refine gate_callee (f := 79) rfl ?_); refine goesL_ (some 25) rfl rfl Try.func79 (by kernel_rfl) rfl #[.int .i64 a0, .agg #[.int .i64 x4, .int .i64 y5]] rfl (by (try simp only [List.map_toArray, List.map_cons, List.map_nil]); first | done | rfl) ?_; (with_reducible refine (spec_poDiagonal.calls a0 x4 y5 false _ HT.out).mono ?_); rintro e w11 ⟨rfl, hb⟩; refine ⟨_, rfl, ?_⟩; have HO11 := Aside0.mk (Kd.R_below (by (with_reducible repeat (first | apply Kd.R_alloc | apply Kd.R_drewN | apply Kd.R_drew)); exact (Kd.R_mono (Kd.R_far (p := ⟨gb, 1, none⟩) (Kd.R_far (p := ⟨gb, 0, none⟩) (Kd.R_mono HO9.out (fun k_ hk => (⟨hk, hk.2⟩ : _ ∧ k_ ≠ gb))) (fun _ hk => hk.2) (.int .i64 x4)) (fun _ hk => hk.2) (.int .i64 y5)) (ok' := fun k_ => k_ ≠ gb) (fun _ hk => hk.2))) hb); have BK11 := Aside0.mk (blk_below (g := gb) (o := .cells #[.int .i64 x4, .int .i64 y5] 54 (0, 0)) (by (with_reducible repeat (first | refine blk_drewN ?_ _ | refine blk_drew ?_ | refine blk_alloc ?_ _)); refine blk_put (cs := #[.int .i64 x4, .int .i64 0]) ?_ 1 _ rfl; (with_reducible repeat (first | refine blk_drewN ?_ _ | refine blk_drew ?_ | refine blk_alloc ?_ _)); refine blk_put (cs := #[.int .i64 0, .int .i64 0]) ?_ 0 _ rfl; (with_reducible repeat (first | refine blk_drewN ?_ _ | refine blk_drew ?_ | refine blk_alloc ?_ _)); exact BK.out) hb); have HB11 := Aside0.mk (below_step (bs_ HB9.out GE.out) hb); clear hb; have hdz0 : w11.cell? ⟨gb, 0, none⟩ = some (.int .i64 x4) := (blk_cell BK11.out 0).trans rfl; have hdz1 : w11.cell? ⟨gb, 1, none⟩ = some (.int .i64 y5) := (blk_cell BK11.out 1).trans rfl))
        go_roundg k2
        case measure => have := HK2.out; omega
        case rel => exact ⟨y3, wrap64 (y5 + 1), fs_, HA, ⟨by have := HK2.out; omega⟩, ⟨by (with_reducible repeat (first | apply Kd.R_alloc | apply Kd.R_drewN | apply Kd.R_drew)); exact Kd.R_mono HO11.out (fun _ _ => trivial)⟩, ⟨bs_ HB11.out GE.out⟩⟩
      ·rw [if_neg c5] at H
       have c5b0 : decide (y5 < a0) = false := decide_eq_false c5; have HA := Aside0.mk H; clear H
       go_wp2
       go_roundg k2
       case measure => have := HK1.out; have := HK2.out; omega
       case rel => exact ⟨y3, wrap64 (x4 + 1), fs_, HA, ⟨by have := HK1.out; have := HK2.out; omega⟩, ⟨kr_ HO.out⟩, ⟨bl_ HB.out⟩⟩
   ·rw [if_neg c3] at H
    have c3b0 : decide (x4 < a0) = false := decide_eq_false c3
    by_cases c6 : 3 ≤ a0 ∧ a0 ≤ 1000 ∧ x3.length ≤ 1000000
    case neg => rw [if_neg c6] at H; cases H
    rw [if_pos c6] at H
    have HGd := Aside0.mk c6; have HLk := Aside0.mk H; clear c6 H; obtain ⟨A3, c3', e3⟩ := Kd.R_slice HO.out; subst e3; have HC3 := Aside0.mk (Kd.R_reads' HO.out).2.1
    go_wp2_with (first | ((with_reducible refine gate_dst (N := 7) rfl ?_); refine box_event ?hg (N := 7) ?hd (cs := #[.slice none 0 0]) (t := 39) ?hr ?_; (case hd => rfl); (case hg => rfl); (case hr => first | (go_simp; done) | (go_simp; rfl)); intro g7 hg7 w9 hbox hb; have HX9 := Aside0.mk hbox; have HB9 := Aside0.mk hb; have HG7 := Aside0.mk (Nat.le_of_eq hg7.symm); clear hg7 hbox hb) | (go_at_call 85; (refine (spec_poAll.lk k1 a0 A3 c3' x3 none 0 [] g7 (.slice none 0 0) [] r wr w9 HGd.out.1 HGd.out.2.1 HGd.out.2.2 (by have := HGd.out.1; simp; omega) HB9.out HG7.out HX9.out (Kd.S_nil _ _ _ _ _) ?s1 HC3.out (fun W' _ => by unfold Kd.C ReadsRow; exact ⟨rfl, by simp, fun hp => absurd hp (by simp)⟩) (Nat.le_refl _) HLk.out).mono ?_); (case s1 => exact (fun W' hk => (Kd.R_reads' (Kd.R_kept (Kd.R_below (Kd.R_mono (Kd.R_bound HO.out) (ok' := fun k_ => k_ < wr.heap.size) (fun k_ hk => hk.2.2.1)) HB9.out) hk (fun k_ hk h => by rcases h with h | h; (have := HG7.out; omega); (simp [Value.ownBlock] at h)))).2.2)); rintro e w12 ⟨rfl, v2, hx12, ho12, hv12, hb12, hk12⟩; have hc12 : w12.cell? ⟨g7, 0, none⟩ = some v2 := (blk_cell hx12 0).trans rfl; have HS12 := Aside0.mk ho12; have HB12 := Aside0.mk (below_step HB.out hb12); clear ho12 hb12 hk12 hv12 hx12))
    go_ret
    exact ⟨_, rfl, Kd.S_mono (Kd.S_lower HS12.out (below_size HB.out)) (fun _ _ => trivial), HB12.out⟩
end Go.Proofs.Ytmpmmhmnjdkgcab.PFnExactAllTriangulations
