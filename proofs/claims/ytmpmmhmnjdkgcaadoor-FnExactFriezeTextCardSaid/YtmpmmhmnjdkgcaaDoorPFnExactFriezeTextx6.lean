-- Written for this claim by a program of this session (wip/tools/xprint.py over the kit's printer, wip/tools/shrink.py).
import Derived.Test.YtmpmmhmnjdkgcaaDoorPFnExactFriezeTextx0
import Derived.Test.YtmpmmhmnjdkgcaaDoorPFnExactFriezeTextx5
namespace Go.Proofs.YtmpmmhmnjdkgcaaDoor.PFnExactFriezeText
open Go.RowKit Go.Proofs.YtmpmmhmnjdkgcaaDoorW.PrintWords Go.Proofs.YtmpmmhmnjdkgcaaDoorW.PrintLast Go.Proofs.YtmpmmhmnjdkgcaaDoorW.PrintMore
attribute [local go_sem] max2_int min2_int max_two min_two max_three min_three max_four min_four   -- for this text's walks alone
set_option linter.unusedVariables false
set_option linter.unusedSimpArgs false
def spec_l1Num.f : Nat → Int → Option (ByteArray)
 | 0, _ => none
 | k + 1, a0 => if a0 < 10 then (some (strOfNums (([(wrap64 (48 + a0)) % 256] : List Int)))) else ((spec_l1Num.f k (wrap64 (Int.tdiv a0 10))).bind fun t257 => ((some (([(wrap64 (48 + (Int.tmod a0 10))) % 256] : List Int) : List Int)).bind fun y258 => (if t257.size + (strOfNums y258).size ≤ 9223372036854775807 then (some (t257 ++ (strOfNums y258))) else (none))))
def spec_l1Num.T3 : Bool × List (List Nat × List Nat) := (true, [([], []), ([0], [0]), ([1], [1]), ([], []), ([3], [3]), ([4], [4]), ([5], [5]), ([6], [6]), ([7], [7]), ([2, 8], [2, 8]), ([9, 2, 0, 1, 2, 3, 4, 5, 6, 7, 8, 9], [9])])
def spec_l1Num.B3 : List Nat := [0, 1, 3, 0, 8, 24, 56, 120, 248, 511, 1023]
theorem spec_l1Num.tab3 : rtab .any (opsOf Tryd.f11 3) = spec_l1Num.T3 := by kernel_rfl
theorem spec_l1Num.bits3 : waitsOk spec_l1Num.T3.2 spec_l1Num.B3 = true := by kernel_rfl
set_option maxHeartbeats 8000000 in
set_option maxRecDepth 100000 in
theorem spec_l1Num.calls (k : Nat) : ∀ (a0 : Int) (r : ByteArray) (w : World) (h : spec_l1Num.f k a0 = some r),
  Calls Tryd.prog 11 #[.int .i64 a0] w fun e w' => e = .returned (.string r) ∧ Below w.heap.size w w' := by
 induction k using Nat.strongRecOn with
 | _ k ih =>
 intro a0 r w h
 cases k with
 | zero => exact absurd h (by simp [spec_l1Num.f])
 | succ k =>
 simp only [spec_l1Num.f] at h
 have HB := Aside0.mk (Below.refl w.heap.size w); have H : (if a0 < 10 then (some (strOfNums (([(wrap64 (48 + a0)) % 256] : List Int)))) else ((spec_l1Num.f k (wrap64 (Int.tdiv a0 10))).bind fun t257 => ((some (([(wrap64 (48 + (Int.tmod a0 10))) % 256] : List Int) : List Int)).bind fun y258 => (if t257.size + (strOfNums y258).size ≤ 9223372036854775807 then (some (t257 ++ (strOfNums y258))) else (none))))) = some r := h
 clear h
 by_cases c2 : a0 < 10
 ·rw [if_pos c2] at H
  have c2b0 : decide (a0 < 10) = true := decide_eq_true c2; clear c2; obtain ⟨y254, hy254⟩ : ∃ y_ : List Int, y_ = (([(wrap64 (48 + a0)) % 256] : List Int)) := ⟨_, rfl⟩; replace H : (some (strOfNums y254)) = some r := rh_ hy254 H; have Ny254 := Aside0.mk hy254; clear hy254; obtain rfl := Option.some.inj H
  go_enter Tryd.func11, Tryd.ntmps11
  go_wp2_with (first | ((with_reducible refine gate_dst (N := 8) rfl ?_); refine Kd.R_lit (Kd.int .u8) _ 5 ?hg (N := 8) ?hd (xs := ([(wrap64 (48 + a0)) % 256] : List Int)) (inner := [.int .u8 ((wrap64 (48 + a0)) % 256)]) (ok := fun _ => True) (okp := fun _ => True) ?hr ?hp (fun _ hk => hk) trivial (Below.refl _ _) (Nat.le_refl _) (by simp) ?_; (case hd => rfl); (case hg => rfl); (case hr => first | (go_simp; done) | (go_simp; rfl)); (case hp => exact (Reps.one (show Kd.M (Kd.int .u8) _ _ _ ((wrap64 (48 + a0)) % 256) [.int .u8 ((wrap64 (48 + a0)) % 256)] from rfl) (Reps.none _ _))); intro v255 w3 ho4 hb hg_ hnew_; clear hg_ hnew_; (first | rw [← Ny254.out] at ho4 | (simp only [Int.reduceToNat] at ho4; rw [← Ny254.out] at ho4)); have n0_ := Aside0.mk (Kd.R_lower ho4 (below_size (bl_ HB.out))); have n1_ := Aside0.mk (below_step (bl_ HB.out) hb); clear HB; have HO256 := n0_; have HB := n1_; clear n0_ n1_; clear hb ho4; have hcv5 := own_string (P := Tryd.prog) Tryd.underlying42 Tryd.underlying5 Tryd.underlying9 (Kd.own_of_R HO256.out)))
  go_ret
  exact ⟨by first | rfl | (simp [errW_none, errW_some] <;> rfl) | (simp [*, errW_none, errW_some] <;> rfl), bl_ HB.out⟩
 ·rw [if_neg c2] at H
  have c2b0 : decide (a0 < 10) = false := decide_eq_false c2; clear c2; replace H := Option.bind_eq_some_iff.mp H; obtain ⟨t257, A60, H⟩ := H; replace H : ((some (([(wrap64 (48 + (Int.tmod a0 10))) % 256] : List Int) : List Int)).bind fun y258 => (if t257.size + (strOfNums y258).size ≤ 9223372036854775807 then (some (t257 ++ (strOfNums y258))) else (none))) = some r := H
  have A6 := Aside0.mk A60; clear A60; obtain ⟨y258, hy258⟩ : ∃ y_ : List Int, y_ = (([(wrap64 (48 + (Int.tmod a0 10))) % 256] : List Int)) := ⟨_, rfl⟩; replace H : (if t257.size + (strOfNums y258).size ≤ 9223372036854775807 then (some (t257 ++ (strOfNums y258))) else (none)) = some r := rh_ hy258 H
  have Ny258 := Aside0.mk hy258; clear hy258
  by_cases c7 : t257.size + (strOfNums y258).size ≤ 9223372036854775807
  ·rw [if_pos c7] at H
   have c7b0 := eq_true c7; have c7b1 : decide (t257.size + (strOfNums y258).size ≤ 9223372036854775807) = true := decide_eq_true c7
   try have c7b2 : (9223372036854775807 < t257.size + (strOfNums y258).size) = False := eq_false (Nat.not_lt.2 c7)
   obtain rfl := Option.some.inj H
   go_enter Tryd.func11, Tryd.ntmps11
   try go_wp2
   have n0_ := Aside0.mk (below_drew1 HB.out); clear HB; have HB := n0_; clear n0_; refine start_ (n := 11) (S := fun w' => True) (ds := []) #[false, false, false, false, false, false, false, false, false, false, false] (by kernel_rfl) rfl rfl trivial (fun hHeld => ?_); refine with_tabW spec_l1Num.tab3 spec_l1Num.bits3 (fun HT_ HW_ => ?_)
   generalize w.drew = w8 at HB hHeld ⊢
   refine pa_ 0 (some 10) rfl rfl HT_ ?_; refine pa_ 1 (some 11) rfl rfl HT_ ?_; refine pa_ 3 (some 13) rfl rfl HT_ ?_; refine pa_ 4 (some 14) rfl rfl HT_ ?_; refine pa_ 5 (some 15) rfl rfl HT_ ?_; refine pa_ 6 (some 16) rfl rfl HT_ ?_; refine join_ (σ := Value) 2 #[true, true, true, true, true, true, true, true, true, false, false] (fun s_ => [(12, .string t257), (17, s_), (18, .string (strOfNums y258))]) (fun s_ w' => (Kd.R (Kd.int .u8) 5 w' w.heap.size (fun _ => True) s_ y258) ∧ (Below w.heap.size w w')) ?_ ?_
   rotate_left
   ·intro hCont
    refine two_ (i := 2) (j := 7) (Ni := some 12) (Nj := some 17) #[true, true, true, true, true, true, true, false, false, false, false] #[true, true, false, true, true, true, true, true, false, false, false] rfl rfl rfl rfl (two_of HT_.out (by kernel_rfl)) (by decide) (by decide) (fun K hK => ?_) (fun K hK => ?_)
    ·skip
     refine goes_ Tryd.func11 (by kernel_rfl) rfl #[.int .i64 (wrap64 (Int.tdiv a0 10))] (by rfl) rfl rfl (by (try simp only [List.map_toArray, List.map_cons, List.map_nil]); first | done | rfl | (simp only [List.length_drop, List.length_take]; rfl)) ?_
     with_reducible refine (ih k (by omega) (wrap64 (Int.tdiv a0 10)) t257 _ A6.out).mono ?_
     rintro e w9 ⟨rfl, hb⟩
     refine ⟨_, rfl, ?_⟩; have n0_ := Aside0.mk (below_step (bl_ HB.out) hb); clear HB; have HB := n0_; clear n0_
     (try clear hb)
     (try clear hb2)
     (try clear hk)
     (try clear hi)
     refine hK.out _ _ trivial (fun hHeld => ?_)
     clear hK K; refine na_ (some 12) ?_; refine one_ (i := 7) (N := some 17) #[true, true, true, true, true, true, true, true, false, false, false] rfl rfl (one_of HT_.out (by kernel_rfl)) (by decide) (fun K hK => ?_)
     refine Kd.R_lit_step (Kd.int .u8) _ 5 ?hg (N := 17) ?hd (xs := ([(wrap64 (48 + (Int.tmod a0 10))) % 256] : List Int)) (inner := [.int .u8 ((wrap64 (48 + (Int.tmod a0 10))) % 256)]) (ok := fun _ => True) (okp := fun _ => True) ?hr ?hp (fun _ hk => hk) trivial (Below.refl _ _) (Nat.le_refl _) (by simp) ?_; (case hd => rfl); (case hg => rfl); (case hr => first | (go_simp; done) | (go_simp; rfl)); (case hp => exact (Reps.one (show Kd.M (Kd.int .u8) _ _ _ ((wrap64 (48 + (Int.tmod a0 10))) % 256) [.int .u8 ((wrap64 (48 + (Int.tmod a0 10))) % 256)] from rfl) (Reps.none _ _)))
     intro v259 w10 ho11 hb hg_ hnew_; clear hg_ hnew_
     (first | rw [← Ny258.out] at ho11 | (simp only [Int.reduceToNat] at ho11; rw [← Ny258.out] at ho11))
     have n0_ := Aside0.mk (Kd.R_lower ho11 (below_size (bl_ HB.out))); have n1_ := Aside0.mk (below_step (bl_ HB.out) hb); clear HB; have HO260 := n0_; have HB := n1_; clear n0_ n1_; clear hb ho11; refine hK.out _ _ trivial (fun hHeld => ?_)
     clear hK K; refine na_ (some 17) ?_; refine one_ (i := 8) (N := some 18) #[true, true, true, true, true, true, true, true, true, false, false] rfl rfl (one_of HT_.out (by kernel_rfl)) (by decide) (fun K hK => ?_)
     have hcv12 := own_string (P := Tryd.prog) Tryd.underlying42 Tryd.underlying5 Tryd.underlying9 (Kd.own_of_R HO260.out); refine value_ (w1 := ?_) (v := ?_) (by rfl) rfl ?_ ?_
     rotate_left 2
     ·go_simp
      constructor
      ·rfl
      ·rfl
     clear hcv12; refine hK.out _ _ trivial (fun hHeld => ?_)
     clear hK K; refine na_ (some 18) ?_; exact norm_ (by simp only [putAll, Act.put, List.setIfInBounds_toArray, List.set_cons_zero, List.set_cons_succ]) (hCont (v259) _ ⟨(kr_ HO260.out), (bl_ HB.out)⟩)
    ·skip
     refine Kd.R_lit_step (Kd.int .u8) _ 5 ?hg (N := 17) ?hd (xs := ([(wrap64 (48 + (Int.tmod a0 10))) % 256] : List Int)) (inner := [.int .u8 ((wrap64 (48 + (Int.tmod a0 10))) % 256)]) (ok := fun _ => True) (okp := fun _ => True) ?hr ?hp (fun _ hk => hk) trivial (Below.refl _ _) (Nat.le_refl _) (by simp) ?_; (case hd => rfl); (case hg => rfl); (case hr => first | (go_simp; done) | (go_simp; rfl)); (case hp => exact (Reps.one (show Kd.M (Kd.int .u8) _ _ _ ((wrap64 (48 + (Int.tmod a0 10))) % 256) [.int .u8 ((wrap64 (48 + (Int.tmod a0 10))) % 256)] from rfl) (Reps.none _ _)))
     intro v259 w9 ho10 hb hg_ hnew_; clear hg_ hnew_
     (first | rw [← Ny258.out] at ho10 | (simp only [Int.reduceToNat] at ho10; rw [← Ny258.out] at ho10))
     have n0_ := Aside0.mk (Kd.R_lower ho10 (below_size (bl_ HB.out))); have n1_ := Aside0.mk (below_step (bl_ HB.out) hb); clear HB; have HO260 := n0_; have HB := n1_; clear n0_ n1_; clear hb ho10; refine hK.out _ _ trivial (fun hHeld => ?_)
     clear hK K; refine na_ (some 17) ?_; refine two_ (i := 2) (j := 8) (Ni := some 12) (Nj := some 18) #[true, true, true, true, true, true, true, true, false, false, false] #[true, true, false, true, true, true, true, true, true, false, false] rfl rfl rfl rfl (two_of HT_.out (by kernel_rfl)) (by decide) (by decide) (fun K hK => ?_) (fun K hK => ?_)
     ·skip
      refine goes_ Tryd.func11 (by kernel_rfl) rfl #[.int .i64 (wrap64 (Int.tdiv a0 10))] (by rfl) rfl rfl (by (try simp only [List.map_toArray, List.map_cons, List.map_nil]); first | done | rfl | (simp only [List.length_drop, List.length_take]; rfl)) ?_
      with_reducible refine (ih k (by omega) (wrap64 (Int.tdiv a0 10)) t257 _ A6.out).mono ?_
      rintro e w11 ⟨rfl, hb⟩
      refine ⟨_, rfl, ?_⟩; have n0_ := Aside0.mk (Kd.R_below (kr_ HO260.out) hb); have n1_ := Aside0.mk (below_step (bl_ HB.out) hb); clear HO260; clear HB; have HO260 := n0_; have HB := n1_; clear n0_ n1_
      (try clear hb)
      (try clear hb2)
      (try clear hk)
      (try clear hi)
      refine hK.out _ _ trivial (fun hHeld => ?_)
      clear hK K; refine na_ (some 12) ?_; refine one_ (i := 8) (N := some 18) #[true, true, true, true, true, true, true, true, true, false, false] rfl rfl (one_of HT_.out (by kernel_rfl)) (by decide) (fun K hK => ?_)
      have hcv12 := own_string (P := Tryd.prog) Tryd.underlying42 Tryd.underlying5 Tryd.underlying9 (Kd.own_of_R HO260.out); refine value_ (w1 := ?_) (v := ?_) (by rfl) rfl ?_ ?_
      rotate_left 2
      ·go_simp
       constructor
       ·rfl
       ·rfl
      clear hcv12; refine hK.out _ _ trivial (fun hHeld => ?_)
      clear hK K; refine na_ (some 18) ?_; exact norm_ (by simp only [putAll, Act.put, List.setIfInBounds_toArray, List.set_cons_zero, List.set_cons_succ]) (hCont (v259) _ ⟨(kr_ HO260.out), (bl_ HB.out)⟩)
     ·skip
      have hcv11 := own_string (P := Tryd.prog) Tryd.underlying42 Tryd.underlying5 Tryd.underlying9 (Kd.own_of_R HO260.out); refine value_ (w1 := ?_) (v := ?_) (by rfl) rfl ?_ ?_
      rotate_left 2
      ·go_simp
       constructor
       ·rfl
       ·rfl
      clear hcv11; refine hK.out _ _ trivial (fun hHeld => ?_)
      clear hK K; refine na_ (some 18) ?_; refine one_ (i := 2) (N := some 12) #[true, true, true, true, true, true, true, true, true, false, false] rfl rfl (one_of HT_.out (by kernel_rfl)) (by decide) (fun K hK => ?_)
      refine goes_ Tryd.func11 (by kernel_rfl) rfl #[.int .i64 (wrap64 (Int.tdiv a0 10))] (by rfl) rfl rfl (by (try simp only [List.map_toArray, List.map_cons, List.map_nil]); first | done | rfl | (simp only [List.length_drop, List.length_take]; rfl)) ?_
      with_reducible refine (ih k (by omega) (wrap64 (Int.tdiv a0 10)) t257 _ A6.out).mono ?_
      rintro e w12 ⟨rfl, hb⟩
      refine ⟨_, rfl, ?_⟩; have n0_ := Aside0.mk (Kd.R_below (kr_ HO260.out) hb); have n1_ := Aside0.mk (below_step (bl_ HB.out) hb); clear HO260; clear HB; have HO260 := n0_; have HB := n1_; clear n0_ n1_
      (try clear hb)
      (try clear hb2)
      (try clear hk)
      (try clear hi)
      refine hK.out _ _ trivial (fun hHeld => ?_)
      clear hK K; refine na_ (some 12) ?_; exact norm_ (by simp only [putAll, Act.put, List.setIfInBounds_toArray, List.set_cons_zero, List.set_cons_succ]) (hCont (v259) _ ⟨(kr_ HO260.out), (bl_ HB.out)⟩)
   rintro v259 w13 ⟨h0_, h1_⟩
   have n0_ : Aside0 (Kd.R (Kd.int .u8) 5 w13 w.heap.size (fun _ => True) v259 y258) := ⟨h0_⟩
   have n1_ : Aside0 (Below w.heap.size w w13) := ⟨h1_⟩; clear HB; clear h0_ h1_; have HO260 := n0_; have HB := n1_; clear n0_ n1_; have hHeld := trivial; refine norm_ (a' := ?_) ?_ ?_; rotate_left
   ·simp only [putAll, Act.put, List.setIfInBounds_toArray, List.set_cons_zero, List.set_cons_succ]
    rfl
   refine pa_ 9 (some 19) rfl rfl HT_ ?_; refine pa_ 10 (some 2) rfl rfl HT_ ?_; refine done_ (done_of HT_.out (by kernel_rfl)) ?_
   try go_wp2
   go_ret
   exact ⟨by first | rfl | (simp [errW_none, errW_some] <;> rfl) | (simp [*, errW_none, errW_some] <;> rfl), bl_ HB.out⟩
  ·rw [if_neg c7] at H
   exact absurd H (by simp)
mutual
def spec_FriezeText.l0 : Nat → ByteArray → List (List Int) → Int → Int → Option (ByteArray × Bool)
 | 0, _, _, _, _ => none
 | k + 1, x6, x18, x19, x20 => if x20 < x19 then (if 0 ≤ x20 then (if x20 < (x18.length : Int) then (if x20 > 0 then (if x6.size + 1 ≤ 9223372036854775807 then (spec_FriezeText.j1 k (x6 ++ (⟨#[47]⟩ : ByteArray)) (rd_L1 x18 x20) x18 x19 x20) else (none)) else (spec_FriezeText.j1 k x6 (rd_L1 x18 x20) x18 x19 x20)) else (none)) else (none)) else (some (x6, true))
def spec_FriezeText.j1 : Nat → ByteArray → List Int → List (List Int) → Int → Int → Option (ByteArray × Bool)
 | 0, _, _, _, _, _ => none
 | k + 1, x6, x8, x18, x19, x20 => spec_FriezeText.l1 k x6 x18 x19 x20 x8 (x8.length : Int) 0
def spec_FriezeText.l1 : Nat → ByteArray → List (List Int) → Int → Int → List Int → Int → Int → Option (ByteArray × Bool)
 | 0, _, _, _, _, _, _, _ => none
 | k + 1, x6, x18, x19, x20, x29, x30, x31 => if x31 < x30 then (if 0 ≤ x31 then (if x31 < (x29.length : Int) then (if x31 > 0 then (if x6.size + 1 ≤ 9223372036854775807 then ((spec_l1Num.f k (rd x29 x31)).bind fun t267 => (if (x6 ++ (⟨#[44]⟩ : ByteArray)).size + t267.size ≤ 9223372036854775807 then (spec_FriezeText.l1 k ((x6 ++ (⟨#[44]⟩ : ByteArray)) ++ t267) x18 x19 x20 x29 x30 (wrap64 (x31 + 1))) else (none))) else (none)) else ((spec_l1Num.f k (rd x29 x31)).bind fun t268 => (if x6.size + t268.size ≤ 9223372036854775807 then (spec_FriezeText.l1 k (x6 ++ t268) x18 x19 x20 x29 x30 (wrap64 (x31 + 1))) else (none)))) else (none)) else (none)) else (spec_FriezeText.l0 k x6 x18 x19 (wrap64 (x20 + 1)))
end
def spec_FriezeText.f (k : Nat) (l0 : List (List Int)) : Option (ByteArray × Bool) := (spec_frRead.f k l0).bind fun bt261 => (if bt261.2 = true then (spec_FriezeText.l0 k (⟨#[]⟩ : ByteArray) l0 (l0.length : Int) 0) else (some ((⟨#[]⟩ : ByteArray), false)))
set_option maxHeartbeats 8000000 in
set_option maxRecDepth 100000 in
theorem spec_FriezeText.calls (k : Nat) (A0 : Option Addr) (c0 : Nat) (l0 : List (List Int)) (r1 : ByteArray) (r2 : Bool) (w : World) (hr0 : Kd.C (Kd.slice 3 (Kd.int .i64)) w A0 l0.length l0) (hc0 : l0.length ≤ c0) (h : spec_FriezeText.f k l0 = some (r1, r2)) :
  Calls Tryd.prog 5 #[.slice A0 l0.length c0] w fun e w' => e = .returned (.tuple #[.string r1, .bool r2]) ∧ Below w.heap.size w w' := by
 have HR0 := Aside0.mk hr0; have HC0 := Aside0.mk hc0; clear hr0 hc0; have HB := Aside0.mk (Below.refl w.heap.size w); have H : ((spec_frRead.f k l0).bind fun bt261 => (if bt261.2 = true then (spec_FriezeText.l0 k (⟨#[]⟩ : ByteArray) l0 (l0.length : Int) 0) else (some ((⟨#[]⟩ : ByteArray), false)))) = some (r1, r2) := h
 clear h; replace H := Option.bind_eq_some_iff.mp H; obtain ⟨⟨t261, t262⟩, A20, H⟩ := H; replace H : (if t262 = true then (spec_FriezeText.l0 k (⟨#[]⟩ : ByteArray) l0 (l0.length : Int) 0) else (some ((⟨#[]⟩ : ByteArray), false))) = some (r1, r2) := H
 have A2 := Aside0.mk A20; clear A20
 by_cases c3 : t262 = true
 ·subst c3
  have H1 : (spec_FriezeText.l0 k (⟨#[]⟩ : ByteArray) l0 (l0.length : Int) 0) = some (r1, r2) := by rw [if_pos rfl] at H; exact H
  clear H; have H := H1; clear H1; have H' := Aside0.mk H; clear H
  go_enter Tryd.func5, Tryd.ntmps5
  go_wp2_with (first | ((with_reducible refine gate_callee (f := 10) rfl ?_); refine goesL_ (some 13) rfl rfl Tryd.func10 (by kernel_rfl) rfl #[.slice A0 l0.length c0] rfl (by (try simp only [List.map_toArray, List.map_cons, List.map_nil]); first | done | rfl | (simp only [List.length_drop, List.length_take]; rfl)) ?_; (with_reducible refine (spec_frRead.calls k _ _ l0 t261 true _ ?side1 ?side2 A2.out).mono ?_); (case side1 => repeat (first | exact HR0.out | (with_reducible refine Kd.C_alloc ?_ _) | (with_reducible refine Kd.C_drewN ?_ _) | (with_reducible refine Kd.C_drew ?_))); (case side2 => exact HC0.out); rintro e w4 ⟨v263, rfl, ho0, hb⟩; refine ⟨_, rfl, ?_⟩; have n0_ := Aside0.mk (Kd.R_lower ho0 (below_size (bl_ HB.out))); have n1_ := Aside0.mk (below_step (bl_ HB.out) hb); clear HB; have HO264 := n0_; have HB := n1_; clear n0_ n1_; (try clear hb); (try clear hb2); (try clear hk); (try clear hi); (try clear ho0)))
  go_loopg [6, 20] k (fun kq v6 v20 w' => ∃ (x6_1 : ByteArray) (x20_1 : Int), v6 = .string x6_1 ∧ v20 = .int .i64 x20_1 ∧ Aside0 (spec_FriezeText.l0 kq x6_1 l0 (l0.length : Int) x20_1 = some (r1, r2)) ∧ Aside0 (kq ≤ k) ∧ Aside0 (Below w.heap.size w w'))
  case atStart => exact ⟨((⟨#[]⟩ : ByteArray)), (0), (fs_), (fs_), H', ⟨Nat.le_refl _⟩, ⟨bl_ HB.out⟩⟩
  case round =>
   clear H'
   try clear c1
   try clear p2
   try clear c3
   obtain ⟨x6_1, x20_1, rfl, rfl, HA, HK1, HB⟩ := hrel
   cases gk with
   | zero => exact absurd HA.out (by simp [spec_FriezeText.l0])
   | succ k1 =>
    have H := HA.out; clear HA
    simp only [spec_FriezeText.l0] at H
    by_cases c5 : x20_1 < (l0.length : Int)
    ·rw [if_pos c5] at H
     have c5b0 : decide (x20_1 < (l0.length : Int)) = true := decide_eq_true c5; clear c5
     by_cases c6 : 0 ≤ x20_1
     ·rw [if_pos c6] at H
      have c6b0 : decide (0 ≤ x20_1) = true := decide_eq_true c6; clear c6
      by_cases c7 : x20_1 < (l0.length : Int)
      ·rw [if_pos c7] at H
       have c7b0 : decide (x20_1 < (l0.length : Int)) = true := decide_eq_true c7; clear c7; have HC8 := Aside0.mk H; clear H; have p265 : 0 ≤ (x20_1 : Int) := of_decide_eq_true as_; have q265 : x20_1 < (l0.length : Int) := of_decide_eq_true as_; obtain ⟨ad265, A265_0, c265_0, e265, hx265_0, hl265_0, hi265_0⟩ := at_L1 HR0.out x20_1 p265 q265
       cases e265
       replace hx265_0 := (HB.out.cell (World.block_lt_of_cell? w _ hx265_0)).trans hx265_0; have HR265_0 := Aside0.mk hi265_0; have HC265_0 := Aside0.mk hl265_0; clear hi265_0 hl265_0; replace p265 := eq_true p265; replace q265 := eq_true q265
       go_upto_if 26 with (fail)
       go_cut [6] (fun v6 wc => ∃ (kq : Nat) (x6_7 : ByteArray), v6 = .string x6_7 ∧ Aside0 (spec_FriezeText.j1 kq x6_7 (rd_L1 l0 x20_1) l0 (l0.length : Int) x20_1 = some (r1, r2)) ∧ Aside0 (kq ≤ k1) ∧ Aside0 (Below w.heap.size w wc))
       case first =>
        have H := HC8.out; clear HC8
        by_cases c9 : x20_1 > 0
        ·rw [if_pos c9] at H
         have c9b0 : decide (0 < x20_1) = true := decide_eq_true c9; clear c9
         (first | rw [c9b0] | (simp only [i64_w, i32_w]; rw [c9b0]) | skip)
         by_cases c10 : x6_1.size + 1 ≤ 9223372036854775807
         ·rw [if_pos c10] at H
          have c10b0 := eq_true c10; have c10b1 : decide (x6_1.size + 1 ≤ 9223372036854775807) = true := decide_eq_true c10
          try have c10b2 : (9223372036854775807 < x6_1.size + 1) = False := eq_false (Nat.not_lt.2 c10)
          have H' := Aside0.mk H; clear H
          go_wp2
          go_meet
          case rel => exact ⟨_, (x6_1 ++ (⟨#[47]⟩ : ByteArray)), (fs_), H', ⟨by have := HK1.out; first | omega | exact Nat.le_refl _⟩, ⟨bl_ HB.out⟩⟩
         ·rw [if_neg c10] at H
          exact absurd H (by simp)
        ·rw [if_neg c9] at H
         have c9b0 : decide (0 < x20_1) = false := decide_eq_false c9; clear c9
         (first | rw [c9b0] | (simp only [i64_w, i32_w]; rw [c9b0]) | skip)
         have H' := Aside0.mk H; clear H
         go_wp2
         go_meet
         case rel => exact ⟨_, (x6_1), (fs_), H', ⟨by have := HK1.out; first | omega | exact Nat.le_refl _⟩, ⟨bl_ HB.out⟩⟩
       case rest =>
        clear HC8
        try clear c1
        try clear c2
        try clear p2
        try clear q2
        try clear hx2
        try clear c3
        try clear c5
        try clear c5b0
        try clear c6
        try clear c6b0
        try clear c7
        try clear c7b0
        try clear c9
        try clear c9b0
        try clear c10
        try clear c10b0
        try clear c10b1
        try clear c10b2
        try clear hx265_0
        try clear p2
        try clear p265
        try clear q265
        obtain ⟨kq, x6_7, rfl, HA, HJ7, HB⟩ := hcut
        cases kq with
        | zero => exact absurd HA.out (by simp [spec_FriezeText.j1])
        | succ kj7 =>
         have H := HA.out; clear HA
         simp only [spec_FriezeText.j1] at H
         have H' := Aside0.mk H; clear H
         go_wp2
         go_loopg [6, 31] kj7 (fun kq v6 v31 w' => ∃ (x6_3 : ByteArray) (x31_3 : Int), v6 = .string x6_3 ∧ v31 = .int .i64 x31_3 ∧ Aside0 (spec_FriezeText.l1 kq x6_3 l0 (l0.length : Int) x20_1 (rd_L1 l0 x20_1) ((rd_L1 l0 x20_1).length : Int) x31_3 = some (r1, r2)) ∧ Aside0 (kq ≤ kj7) ∧ Aside0 (Below w.heap.size w w'))
         case atStart => exact ⟨(x6_7), (0), (fs_), (fs_), H', ⟨Nat.le_refl _⟩, ⟨bl_ HB.out⟩⟩
         case round =>
          clear H'
          try clear c1
          try clear c2
          try clear p2
          try clear q2
          try clear hx2
          try clear c3
          try clear c5
          try clear c5b0
          try clear c6
          try clear c6b0
          try clear c7
          try clear c7b0
          try clear c9
          try clear c9b0
          try clear c10
          try clear c10b0
          try clear c10b1
          try clear c10b2
          try clear hx265_0
          try clear p2
          try clear p265
          try clear q2
          try clear q265
          obtain ⟨x6_3, x31_3, rfl, rfl, HA, HK3, HB⟩ := hrel
          cases gk with
          | zero => exact absurd HA.out (by simp [spec_FriezeText.l1])
          | succ k3 =>
           have H := HA.out; clear HA
           simp only [spec_FriezeText.l1] at H
           by_cases c11 : x31_3 < ((rd_L1 l0 x20_1).length : Int)
           ·rw [if_pos c11] at H
            have c11b0 : decide (x31_3 < ((rd_L1 l0 x20_1).length : Int)) = true := decide_eq_true c11; clear c11
            by_cases c12 : 0 ≤ x31_3
            ·rw [if_pos c12] at H
             have c12b0 : decide (0 ≤ x31_3) = true := decide_eq_true c12; clear c12
             by_cases c13 : x31_3 < ((rd_L1 l0 x20_1).length : Int)
             ·rw [if_pos c13] at H
              have c13b0 : decide (x31_3 < ((rd_L1 l0 x20_1).length : Int)) = true := decide_eq_true c13; clear c13
              by_cases c14 : x31_3 > 0
              ·rw [if_pos c14] at H
               have c14b0 : decide (0 < x31_3) = true := decide_eq_true c14; clear c14
               by_cases c15 : x6_3.size + 1 ≤ 9223372036854775807
               ·rw [if_pos c15] at H
                have c15b0 := eq_true c15; have c15b1 : decide (x6_3.size + 1 ≤ 9223372036854775807) = true := decide_eq_true c15
                try have c15b2 : (9223372036854775807 < x6_3.size + 1) = False := eq_false (Nat.not_lt.2 c15)
                replace H := Option.bind_eq_some_iff.mp H; obtain ⟨t267, A160, H⟩ := H; replace H : (if (x6_3 ++ (⟨#[44]⟩ : ByteArray)).size + t267.size ≤ 9223372036854775807 then (spec_FriezeText.l1 k3 ((x6_3 ++ (⟨#[44]⟩ : ByteArray)) ++ t267) l0 (l0.length : Int) x20_1 (rd_L1 l0 x20_1) ((rd_L1 l0 x20_1).length : Int) (wrap64 (x31_3 + 1))) else (none)) = some (r1, r2) := H
                have A16 := Aside0.mk A160; clear A160
                by_cases c17 : (x6_3 ++ (⟨#[44]⟩ : ByteArray)).size + t267.size ≤ 9223372036854775807
                ·rw [if_pos c17] at H
                 have c17b0 := eq_true c17; have c17b1 : decide ((x6_3 ++ (⟨#[44]⟩ : ByteArray)).size + t267.size ≤ 9223372036854775807) = true := decide_eq_true c17
                 try have c17b2 : (9223372036854775807 < (x6_3 ++ (⟨#[44]⟩ : ByteArray)).size + t267.size) = False := eq_false (Nat.not_lt.2 c17)
                 try (have c17b2z_ := c17b2; simp only [ByteArray.size_append', ByteArray.size_mk', List.size_toArray, List.length_cons, List.length_nil, Nat.zero_add] at c17b2z_)
                 have H' := Aside0.mk H; clear H; have p266 : 0 ≤ (x31_3 : Int) := of_decide_eq_true as_; have q266 : x31_3 < ((rd_L1 l0 x20_1).length : Int) := of_decide_eq_true as_; obtain ⟨ad266, e266, hx266_0⟩ := Kd.at_int HR265_0.out x31_3 p266 q266
                 cases e266
                 replace hx266_0 := (HB.out.cell (World.block_lt_of_cell? w _ hx266_0)).trans hx266_0; replace p266 := eq_true p266; replace q266 := eq_true q266
                 go_wp2_with (first | ((with_reducible refine gate_callee (f := 11) rfl ?_); refine goesL_ (some 42) rfl rfl Tryd.func11 (by kernel_rfl) rfl #[.int .i64 (rd (rd_L1 l0 x20_1) x31_3)] rfl (by (try simp only [List.map_toArray, List.map_cons, List.map_nil]); first | done | rfl | (simp only [List.length_drop, List.length_take]; rfl)) ?_; (with_reducible refine (spec_l1Num.calls k3 (rd (rd_L1 l0 x20_1) x31_3) t267 _ A16.out).mono ?_); rintro e w18 ⟨rfl, hb⟩; refine ⟨_, rfl, ?_⟩; have n0_ := Aside0.mk (below_step (bl_ HB.out) hb); clear HB; have HB := n0_; clear n0_; (try clear hb); (try clear hb2); (try clear hk); (try clear hi)))
                 go_roundg k3
                 case measure => have := HK1.out; have := HJ7.out; have := HK3.out; omega
                 case rel => exact ⟨((x6_3 ++ (⟨#[44]⟩ : ByteArray)) ++ t267), (wrap64 (x31_3 + 1)), (fs_), (fs_), H', ⟨by have := HK1.out; have := HJ7.out; have := HK3.out; omega⟩, ⟨bl_ HB.out⟩⟩
                ·rw [if_neg c17] at H
                 exact absurd H (by simp)
               ·rw [if_neg c15] at H
                exact absurd H (by simp)
              ·rw [if_neg c14] at H
               have c14b0 : decide (0 < x31_3) = false := decide_eq_false c14; clear c14; replace H := Option.bind_eq_some_iff.mp H; obtain ⟨t268, A190, H⟩ := H; replace H : (if x6_3.size + t268.size ≤ 9223372036854775807 then (spec_FriezeText.l1 k3 (x6_3 ++ t268) l0 (l0.length : Int) x20_1 (rd_L1 l0 x20_1) ((rd_L1 l0 x20_1).length : Int) (wrap64 (x31_3 + 1))) else (none)) = some (r1, r2) := H
               have A19 := Aside0.mk A190; clear A190
               by_cases c20 : x6_3.size + t268.size ≤ 9223372036854775807
               ·rw [if_pos c20] at H
                have c20b0 := eq_true c20; have c20b1 : decide (x6_3.size + t268.size ≤ 9223372036854775807) = true := decide_eq_true c20
                try have c20b2 : (9223372036854775807 < x6_3.size + t268.size) = False := eq_false (Nat.not_lt.2 c20)
                have H' := Aside0.mk H; clear H; have p266 : 0 ≤ (x31_3 : Int) := of_decide_eq_true as_; have q266 : x31_3 < ((rd_L1 l0 x20_1).length : Int) := of_decide_eq_true as_; obtain ⟨ad266, e266, hx266_0⟩ := Kd.at_int HR265_0.out x31_3 p266 q266
                cases e266
                replace hx266_0 := (HB.out.cell (World.block_lt_of_cell? w _ hx266_0)).trans hx266_0; replace p266 := eq_true p266; replace q266 := eq_true q266
                go_wp2_with (first | ((with_reducible refine gate_callee (f := 11) rfl ?_); refine goesL_ (some 42) rfl rfl Tryd.func11 (by kernel_rfl) rfl #[.int .i64 (rd (rd_L1 l0 x20_1) x31_3)] rfl (by (try simp only [List.map_toArray, List.map_cons, List.map_nil]); first | done | rfl | (simp only [List.length_drop, List.length_take]; rfl)) ?_; (with_reducible refine (spec_l1Num.calls k3 (rd (rd_L1 l0 x20_1) x31_3) t268 _ A19.out).mono ?_); rintro e w21 ⟨rfl, hb⟩; refine ⟨_, rfl, ?_⟩; have n0_ := Aside0.mk (below_step (bl_ HB.out) hb); clear HB; have HB := n0_; clear n0_; (try clear hb); (try clear hb2); (try clear hk); (try clear hi)))
                go_roundg k3
                case measure => have := HK1.out; have := HJ7.out; have := HK3.out; omega
                case rel => exact ⟨(x6_3 ++ t268), (wrap64 (x31_3 + 1)), (fs_), (fs_), H', ⟨by have := HK1.out; have := HJ7.out; have := HK3.out; omega⟩, ⟨bl_ HB.out⟩⟩
               ·rw [if_neg c20] at H
                exact absurd H (by simp)
             ·rw [if_neg c13] at H
              exact absurd H (by simp)
            ·rw [if_neg c12] at H
             exact absurd H (by simp)
           ·rw [if_neg c11] at H
            have c11b0 : decide (x31_3 < ((rd_L1 l0 x20_1).length : Int)) = false := decide_eq_false c11; clear c11; have H' := Aside0.mk H; clear H
            go_wp2
            go_roundg k3
            case measure => have := HK1.out; have := HJ7.out; have := HK3.out; omega
            case rel => exact ⟨(x6_3), (wrap64 (x20_1 + 1)), (fs_), (fs_), H', ⟨by have := HK1.out; have := HJ7.out; have := HK3.out; omega⟩, ⟨bl_ HB.out⟩⟩
      ·rw [if_neg c7] at H
       exact absurd H (by simp)
     ·rw [if_neg c6] at H
      exact absurd H (by simp)
    ·rw [if_neg c5] at H
     have c5b0 : decide (x20_1 < (l0.length : Int)) = false := decide_eq_false c5; clear c5
     simp only [Option.some.injEq, Prod.mk.injEq] at H
     obtain ⟨rfl, rfl⟩ := H
     go_wp2
     go_ret2
     exact ⟨by first | rfl | (simp [errW_none, errW_some] <;> rfl) | (simp [*, errW_none, errW_some] <;> rfl), bl_ HB.out⟩
 ·replace c3 := Bool.eq_false_iff.mpr c3
  subst c3; have H1 : (some ((⟨#[]⟩ : ByteArray), false)) = some (r1, r2) := by rw [if_neg (show ¬ (false = true) by decide)] at H; exact H
  clear H; have H := H1; clear H1
  simp only [Option.some.injEq, Prod.mk.injEq] at H
  obtain ⟨rfl, rfl⟩ := H
  go_enter Tryd.func5, Tryd.ntmps5
  go_wp2_with (first | ((with_reducible refine gate_callee (f := 10) rfl ?_); refine goesL_ (some 13) rfl rfl Tryd.func10 (by kernel_rfl) rfl #[.slice A0 l0.length c0] rfl (by (try simp only [List.map_toArray, List.map_cons, List.map_nil]); first | done | rfl | (simp only [List.length_drop, List.length_take]; rfl)) ?_; (with_reducible refine (spec_frRead.calls k _ _ l0 t261 false _ ?side1 ?side2 A2.out).mono ?_); (case side1 => repeat (first | exact HR0.out | (with_reducible refine Kd.C_alloc ?_ _) | (with_reducible refine Kd.C_drewN ?_ _) | (with_reducible refine Kd.C_drew ?_))); (case side2 => exact HC0.out); rintro e w22 ⟨v263, rfl, ho0, hb⟩; refine ⟨_, rfl, ?_⟩; have n0_ := Aside0.mk (Kd.R_lower ho0 (below_size (bl_ HB.out))); have n1_ := Aside0.mk (below_step (bl_ HB.out) hb); clear HB; have HO264 := n0_; have HB := n1_; clear n0_ n1_; (try clear hb); (try clear hb2); (try clear hk); (try clear hi); (try clear ho0)))
  go_ret2
  exact ⟨by first | rfl | (simp [errW_none, errW_some] <;> rfl) | (simp [*, errW_none, errW_some] <;> rfl), bl_ HB.out⟩
end Go.Proofs.YtmpmmhmnjdkgcaaDoor.PFnExactFriezeText
