-- Written for this claim by a program of this session (wip/tools/xprint.py over the kit's printer, wip/tools/shrink.py).
import Derived.Test.YtcfcnnnkpdhecaaGreatPFnContinuantsSplitx0
import Derived.Test.YtcfcnnnkpdhecaaGreatPFnContinuantsSplitx8
import Derived.Test.YtcfcnnnkpdhecaaGreatPFnContinuantsSplitx9
namespace Go.Proofs.YtcfcnnnkpdhecaaGreat.PFnContinuantsSplit
open Go.RowKit Go.Proofs.YtcfcnnnkpdhecaaGreatW.PrintWords Go.Proofs.YtcfcnnnkpdhecaaGreatW.PrintLast Go.Proofs.YtcfcnnnkpdhecaaGreatW.PrintMore
attribute [local go_sem] max2_int min2_int max_two min_two max_three min_three max_four min_four   -- for this text's walks alone
set_option linter.unusedVariables false
set_option linter.unusedSimpArgs false
def bits_Mul.f (a0 : Int) (a1 : Int) : Option (Int × Int) := (bits_Mul64.f a0 a1).bind fun bt253 => (some (bt253.1, bt253.2))
set_option maxHeartbeats 8000000 in
set_option maxRecDepth 100000 in
theorem bits_Mul.calls (a0 : Int) (a1 : Int) (r1 : Int) (r2 : Int) (w : World) (h : bits_Mul.f a0 a1 = some (r1, r2)) :
  Calls Tryz.prog 59 #[.int .u64 a0, .int .u64 a1] w fun e w' => e = .returned (.tuple #[.int .u64 r1, .int .u64 r2]) ∧ Drawn0 w w' := by
 have H : ((bits_Mul64.f a0 a1).bind fun bt253 => (some (bt253.1, bt253.2))) = some (r1, r2) := h
 clear h; replace H := Option.bind_eq_some_iff.mp H; obtain ⟨⟨t253, t254⟩, A30, H⟩ := H; have A3 := Aside0.mk A30; clear A30
 simp only [Option.some.injEq, Prod.mk.injEq] at H
 obtain ⟨rfl, rfl⟩ := H
 go_enter Tryz.func59, Tryz.ntmps59
 go_wp2_with (first | ((with_reducible refine gate_callee (f := 68) rfl ?_); refine gl_ (some 25) Tryz.func68 #[.int .u64 a0, .int .u64 a1] rfl ?_; (with_reducible refine (bits_Mul64.calls a0 a1 t253 t254 _ A3.out).mono ?_); rintro e w' ⟨rfl, ⟨nd, rfl⟩⟩; refine ⟨_, rfl, ?_⟩))
 go_ret2
 exact ⟨fs_, dr_⟩
def slices_Repeat_int_int.f (l0 : List Int) (a1 : Int) : Option (List Int) := if l0.length = 1 ∧ 0 ≤ a1 ∧ a1 ≤ 12 then some (List.replicate a1.toNat (rd l0 0)) else none
def slices_Repeat_int_int.row (m n : Nat) (x : Int) : List Value := List.replicate n (.int .i64 x) ++ List.replicate (m - n) (.int .i64 0)
theorem slices_Repeat_int_int.spl (m n c : Nat) (x : Int) (h : n + c ≤ m) : splice (slices_Repeat_int_int.row m n x) n (List.replicate c (.int .i64 x)) = slices_Repeat_int_int.row m (n + c) x := by
 unfold splice slices_Repeat_int_int.row
 rw [List.length_replicate, List.take_append_of_le_length (by simp), List.take_of_length_le (by simp), List.drop_append, List.drop_of_length_le (by simp), List.nil_append, List.length_replicate, List.drop_replicate, ← List.append_assoc, ← List.replicate_append_replicate]
 congr 2
 omega
theorem slices_Repeat_int_int.fin {W : World} {g b m : Nat} {x : Int} (h : W.heap[g]? = some (.cells (slices_Repeat_int_int.row m m x).toArray 3 (0, 0))) (hm : m ≤ 12) (hb : b ≤ g := by exact Nat.le_refl _) : Kd.R (Kd.int .i64) 3 W b (fun _ => True) (.slice (some ⟨g, 0, none⟩) m m) (List.replicate ((m : Nat) : Int).toNat (rd [x] 0)) := by
 have e : (List.replicate ((m : Nat) : Int).toNat (rd [x] 0)) = List.replicate m x := by rw [Int.toNat_natCast]; rfl
 rw [e]; refine Kd.R_of_own ?_ (fun _ _ => trivial)
 have e2 : encs (Value.int .i64) (List.replicate m x) = slices_Repeat_int_int.row m m x := by simp [encs, slices_Repeat_int_int.row]
 rw [e2, List.length_replicate]; refine ⟨by simp [slices_Repeat_int_int.row], .inr ⟨g, m, _, rfl, hb, h, Nat.le_refl _, by unfold maxLen; omega, by simp [slices_Repeat_int_int.row], by simp [slices_Repeat_int_int.row]⟩⟩
theorem slices_Repeat_int_int.made (m : Nat) (x : Int) : (slices_Repeat_int_int.row m 0 x).toArray = madeCells #[.int .i64 0] m := by
 have hl : (madeCells #[Value.int .i64 0] m).toList = slices_Repeat_int_int.row m 0 x := by
  apply List.ext_getElem
  ·simp [slices_Repeat_int_int.row, madeCells]
  ·intro i h1 h2
   simp [slices_Repeat_int_int.row, madeCells, Nat.mod_one]
 rw [← hl]
theorem slices_Repeat_int_int.mul : ∀ i : Fin 13, bits_Mul.f 1 ((i : Nat) : Int) = some (0, ((i : Nat) : Int)) := by decide +kernel
set_option maxHeartbeats 4000000 in
set_option maxRecDepth 100000 in
theorem slices_Repeat_int_int.calls (A0 : Option Addr) (c0 : Nat) (l0 : List Int) (a1 : Int) (r : List Int) (w : World) (hr0 : Kd.C (Kd.int .i64) w A0 l0.length l0) (hc0 : l0.length ≤ c0) (h : slices_Repeat_int_int.f l0 a1 = some r) :
  Calls Tryz.prog 44 #[.slice A0 l0.length c0, .int .i64 a1] w fun e w' => ∃ v0_ : Value, e = .returned (v0_) ∧ Kd.R (Kd.int .i64) 3 w' w.heap.size (fun _ => True) v0_ r ∧ Below w.heap.size w w' := by
 unfold slices_Repeat_int_int.f at h
 by_cases hc : l0.length = 1 ∧ 0 ≤ a1 ∧ a1 ≤ 12
 case neg => rw [if_neg hc] at h; cases h
 rw [if_pos hc] at h
 obtain ⟨hl, h0, h1⟩ := hc; obtain rfl := Option.some.inj h; obtain ⟨m, rfl⟩ : ∃ m : Nat, a1 = m := ⟨a1.toNat, by omega⟩
 obtain ⟨x, rfl⟩ : ∃ x, l0 = [x] := by
  match l0, hl with
  | [x], _ => exact ⟨x, rfl⟩
 have hm : m ≤ 12 := by omega
 have hmul : Aside0 (bits_Mul.f 1 (m : Int) = some (0, (m : Int))) := ⟨slices_Repeat_int_int.mul ⟨m, Nat.lt_succ_of_le hm⟩⟩; clear h hl; obtain ⟨ad, rfl, hx⟩ := Kd.at_int hr0 0 (by omega) (by simp)
 have HX := Aside0.mk hx; clear hx hr0; clear h0 h1; have hmk := print_make_of (P := Tryz.prog) 24 3 (.int .i64 0) 8 Tryz.underlying24 info3 rfl (by decide) m (by omega)
 have hsz : (Tryz.prog.info? 3).map (·.size) = some 1 := by
  obtain ⟨i, hi, hz⟩ := Option.map_eq_some_iff.1 info3; rw [hi]
  simp only [Prod.mk.injEq] at hz
  simp [hz.2.1]
 have g1 : Aside0 (∀ nd : Nat, (World.alloc (w.drewN nd) (.cells (madeCells #[.int .i64 0] m) 3)).heap[w.heap.size]? = some (.cells (slices_Repeat_int_int.row m 0 x).toArray 3 (0, 0))) := ⟨fun nd => by rw [show (slices_Repeat_int_int.row m 0 x).toArray = madeCells #[.int .i64 0] m from slices_Repeat_int_int.made m x]; exact blk_new (w.drewN nd) _⟩
 have g2 : (List.replicate (min 1 m) (Value.int .i64 x)).length = Nat.min 1 m := List.length_replicate
 have g3 : Aside0 (∀ nd : Nat, ∀ j v, (List.replicate (min 1 m) (Value.int .i64 x))[j]? = some v → (World.alloc (w.drewN nd) (.cells (madeCells #[.int .i64 0] m) 3)).cell? (ad.add j) = some v) := ⟨fun nd j v hv => by
  have hj := (List.getElem?_eq_some_iff.1 hv).1; rw [List.length_replicate] at hj
  obtain rfl : j = 0 := by omega
  rw [List.getElem?_replicate, if_pos hj] at hv
  obtain rfl := Option.some.inj hv; exact pw_cell_below (below_alloc (pw_below_drewN (Below.refl _ _) _) _) HX.out⟩
 have g4 : 0 + (List.replicate (min 1 m) (Value.int .i64 x)).length ≤ (slices_Repeat_int_int.row m 0 x).length := by simp [slices_Repeat_int_int.row]; omega
 have g5 : ∀ v ∈ (List.replicate (min 1 m) (Value.int .i64 x)), v.oneCell' = true := by intro v hv; rw [List.eq_of_mem_replicate hv]; rfl
 go_enter Tryz.func44, Tryz.ntmps44
 go_wp2_with (first | (go_at_call 59; (with_reducible refine (bits_Mul.calls 1 m 0 m _ hmul.out).mono ?_); rintro e w' ⟨rfl, ⟨nd, rfl⟩⟩) | ((with_reducible refine gate_builtin (b := .copy) rfl ?_); (refine wpList_copy_splice rfl (.tmp 31) (.tmp 32) 24 24 rfl 3 Tryz.underlying24 hsz (some ⟨w.heap.size, 0, none⟩) (some ad) m m 1 c0 rfl rfl w.heap.size 0 (slices_Repeat_int_int.row m 0 x) 3 (g1.out _) (List.replicate (min 1 m) (.int .i64 x)) g2 (fun _ => ⟨rfl, ad, rfl, g3.out _⟩) g4 g5 w.heap.size w (below_alloc (pw_below_drewN (Below.refl _ _) _) _) (Nat.le_refl _) ?_; intro w2 hw2 hb2)) | fail)
 go_loopw [8] (fun v wr => ∃ n : Nat, min 1 m ≤ n ∧ n ≤ m ∧ v = .int .i64 n ∧ Hid (wr.heap[w.heap.size]? = some (.cells (slices_Repeat_int_int.row m n x).toArray 3 (0, 0))) ∧ Below w.heap.size w wr) (fun v _ => m - (intOf v).toNat)
 case atStart => exact ⟨min 1 m, Nat.le_refl _, by omega, by first | rfl | (rw [List.length_replicate]; rfl), Lib.hid (by have e := slices_Repeat_int_int.spl m 0 (min 1 m) x (by omega); rw [Nat.zero_add] at e; rw [← e]; exact hw2.out), hb2⟩
 case round =>
  clear g1 g2 g3 g4 g5 hw2 hb2 hmul hmk HX; obtain ⟨n, hn1, hn2, rfl, hrow, hbel⟩ := hrel
  by_cases hlt : n < m
  ·obtain ⟨cs, hcs⟩ : ∃ cs : List Value, cs = List.replicate (Nat.min n (m - n)) (Value.int .i64 x) := ⟨_, rfl⟩
   have HCS := Aside0.mk hcs; have q2 : cs.length = Nat.min n (m - n) := by rw [hcs, List.length_replicate]
   have q3 : Aside0 (∀ nd : Nat, ∀ j v, cs[j]? = some v → (wr.drewN nd).cell? ((⟨w.heap.size, 0, none⟩ : Addr).add j) = some v) := ⟨fun nd j v hv => by
    have hj := (List.getElem?_eq_some_iff.1 hv).1; rw [hcs, List.length_replicate, show Nat.min n (m - n) = min n (m - n) from rfl] at hj
    rw [hcs, List.getElem?_replicate, if_pos (by show j < min n (m - n); omega)] at hv
    obtain rfl := Option.some.inj hv; rw [add_plain, blk_cell (blk_drewN hrow.out nd)]
    simp [slices_Repeat_int_int.row, List.getElem?_append, show j < n by omega]⟩
   have q4 : n + cs.length ≤ (slices_Repeat_int_int.row m n x).length := by rw [q2, show Nat.min n (m - n) = min n (m - n) from rfl]; simp [slices_Repeat_int_int.row]; omega
   have q5 : ∀ v ∈ cs, v.oneCell' = true := by intro v hv; rw [hcs] at hv; rw [List.eq_of_mem_replicate hv]; rfl
   have q6 : Aside0 (∀ nd : Nat, (wr.drewN nd).heap[w.heap.size]? = some (.cells (slices_Repeat_int_int.row m n x).toArray 3 (0, 0))) := ⟨fun _ => hrow.out⟩
   have hne : m ≠ n := by omega
   clear hcs
   go_wp2_with fail
   go_region_law ((refine step_copy_splice rfl (.tmp 41) (.tmp 44) 24 24 rfl 3 Tryz.underlying24 hsz (some ⟨w.heap.size, n, none⟩) (some ⟨w.heap.size, 0, none⟩) (m - n) (m - n) n m (by simp [Act.eval, Act.put]) (by simp [Act.eval, Act.put]) w.heap.size n (slices_Repeat_int_int.row m n x) 3 (q6.out _) cs q2 (fun _ => ⟨rfl, _, rfl, q3.out _⟩) q4 q5 w.heap.size w (pw_below_drewN hbel _) (Nat.le_refl _) ?_; intro w3 hw3 hb3))
   go_simp
   have hw : IntKind.i64.wrap ((n : Int) + ((n.min (m - n) : Nat) : Int)) = ((n + min n (m - n) : Nat) : Int) := by
    rw [i64_w, show n.min (m - n) = min n (m - n) from rfl]
    unfold wrap64
    omega
   rw [hw]
   go_roundw
   case rel =>
    (repeat apply Exists.intro)
    exact ⟨⟨n + min n (m - n), by omega, by omega, rfl, Lib.hid (by rw [← slices_Repeat_int_int.spl m n (min n (m - n)) x (by omega)]; have e := hw3.out; rw [HCS.out] at e; exact e), hb3⟩, rfl⟩
   case measure => simp [intOf]; omega
  ·go_wp2
   obtain rfl : n = m := by omega
   go_ret
   exact ⟨_, rfl, slices_Repeat_int_int.fin hrow.out hm, hbel⟩
def impl_CountTerms.f (k : Nat) (a0 : Int) : Option (Int × Bool) := (impl_within.f a0 0 10).bind fun t255 => (if t255 = true then ((slices_Repeat_int_int.f (([1] : List Int)) a0).bind fun t259 => ((impl_continuant.f k t259 1).bind fun t262 => (some (t262, true)))) else (some (0, false)))
set_option maxHeartbeats 8000000 in
set_option maxRecDepth 100000 in
theorem impl_CountTerms.calls (k : Nat) (a0 : Int) (r1 : Int) (r2 : Bool) (w : World) (h : impl_CountTerms.f k a0 = some (r1, r2)) :
  Calls Tryz.prog 21 #[.int .i64 a0] w fun e w' => e = .returned (.tuple #[.int .i64 r1, .bool r2]) ∧ Below w.heap.size w w' := by
 have HB := Aside0.mk (Below.refl w.heap.size w); have H : ((impl_within.f a0 0 10).bind fun t255 => (if t255 = true then ((slices_Repeat_int_int.f (([1] : List Int)) a0).bind fun t259 => ((impl_continuant.f k t259 1).bind fun t262 => (some (t262, true)))) else (some (0, false)))) = some (r1, r2) := h
 clear h; replace H := Option.bind_eq_some_iff.mp H; obtain ⟨t255, A20, H⟩ := H; have A2 := Aside0.mk A20; clear A20
 by_cases c3 : t255 = true
 ·subst c3
  rw [if_pos rfl] at H
  obtain ⟨y256, hy256⟩ : ∃ y_ : List Int, y_ = (([1] : List Int)) := ⟨_, rfl⟩; replace H : ((slices_Repeat_int_int.f y256 a0).bind fun t259 => ((impl_continuant.f k t259 1).bind fun t262 => (some (t262, true)))) = some (r1, r2) := rh_ hy256 H
  have Ny256 := Aside0.mk hy256; clear hy256; replace H := Option.bind_eq_some_iff.mp H; obtain ⟨t259, A40, H⟩ := H; have A4 := Aside0.mk A40; clear A40; replace H := Option.bind_eq_some_iff.mp H; obtain ⟨t262, A50, H⟩ := H; have A5 := Aside0.mk A50; clear A50
  simp only [Option.some.injEq, Prod.mk.injEq] at H
  obtain ⟨rfl, rfl⟩ := H
  go_enter Tryz.func21, Tryz.ntmps21
  go_wp2_with (first | ((with_reducible refine gate_callee (f := 43) rfl ?_); refine gl_ (some 5) Tryz.func43 #[.int .i64 a0, .int .i64 0, .int .i64 10] rfl ?_; (with_reducible refine (impl_within.calls a0 0 10 true _ A2.out).mono ?_); rintro e w' ⟨rfl, ⟨nd, rfl⟩⟩; refine ⟨_, rfl, ?_⟩) | ((with_reducible refine gate_dst (N := 7) rfl ?_); refine Kd.R_lit (Kd.int .i64) _ 3 ?hg (N := 7) ?hd (xs := ([1] : List Int)) (inner := [.int .i64 1]) (ok := fun _ => True) (okp := fun _ => True) ?hr ?hp (fun _ hk => hk) trivial (Below.refl _ _) (Nat.le_refl _) (by simp) ?_; (case hd => rfl); (case hg => rfl); (case hr => first | (go_simp; done) | (go_simp; rfl)); (case hp => exact (Reps.one (show Kd.M (Kd.int .i64) _ _ _ 1 [.int .i64 1] from rfl) (Reps.none _ _))); intro v257 w6 ho7 hb hg_ hnew_; clear hg_ hnew_; (first | rw [← Ny256.out] at ho7 | (simp only [Int.reduceToNat] at ho7; rw [← Ny256.out] at ho7)); have HO258 := Aside0.mk (Kd.R_lower ho7 (below_size (bl_ HB.out))); replace HB := Aside0.mk (below_step (bl_ HB.out) hb); clear hb ho7; obtain ⟨Ao8, co8, eo8⟩ := Kd.R_slice HO258.out; subst eo8) | ((with_reducible refine gate_callee (f := 44) rfl ?_); refine gl_ (some 9) Tryz.func44 #[.slice Ao8 y256.length co8, .int .i64 a0] rfl ?_; (with_reducible refine (slices_Repeat_int_int.calls _ _ y256 a0 t259 _ ?side1 ?side2 A4.out).mono ?_); (case side1 => exact cc_ (Kd.R_reads' HO258.out).2.2); (case side2 => exact (Kd.R_reads' HO258.out).2.1); rintro e w9 ⟨v260, rfl, ho0, hb⟩; refine ⟨_, rfl, ?_⟩; have HO261 := Aside0.mk (Kd.R_lower (Kd.R_new' ho0 (Kd.R_lt (kr_ HO258.out))) (below_size (bl_ HB.out))); replace HO258 := Aside0.mk (Kd.R_elder' (kr_ HO258.out) (Kd.R_base ho0) hb); replace HB := Aside0.mk (below_step (bl_ HB.out) hb); (try clear hb); (try clear hb2); (try clear hk); (try clear hi); (try clear ho0); obtain ⟨Ao10, co10, eo10⟩ := Kd.R_slice HO261.out; subst eo10) | ((with_reducible refine gate_callee (f := 36) rfl ?_); refine gl_ (some 10) Tryz.func36 #[.slice Ao10 t259.length co10, .int .i64 1] rfl ?_; (with_reducible refine (impl_continuant.calls k _ _ t259 1 t262 _ ?side1 ?side2 A5.out).mono ?_); (case side1 => exact cc_ (Kd.R_reads' HO261.out).2.2); (case side2 => exact (Kd.R_reads' HO261.out).2.1); rintro e w' ⟨rfl, ⟨nd, rfl⟩⟩; refine ⟨_, rfl, ?_⟩))
  go_ret2
  exact ⟨by first | rfl | (simp [errW_none, errW_some] <;> rfl) | (simp [*, errW_none, errW_some] <;> rfl), bl_ HB.out⟩
 ·replace c3 := Bool.eq_false_iff.mpr c3
  subst c3; rw [if_neg (show ¬ (false = true) by decide)] at H
  simp only [Option.some.injEq, Prod.mk.injEq] at H
  obtain ⟨rfl, rfl⟩ := H
  go_enter Tryz.func21, Tryz.ntmps21
  go_wp2_with (first | ((with_reducible refine gate_callee (f := 43) rfl ?_); refine gl_ (some 5) Tryz.func43 #[.int .i64 a0, .int .i64 0, .int .i64 10] rfl ?_; (with_reducible refine (impl_within.calls a0 0 10 false _ A2.out).mono ?_); rintro e w' ⟨rfl, ⟨nd, rfl⟩⟩; refine ⟨_, rfl, ?_⟩))
  go_ret2
  exact ⟨by first | rfl | (simp [errW_none, errW_some] <;> rfl) | (simp [*, errW_none, errW_some] <;> rfl), bl_ HB.out⟩
def impl_SplitContinuant.j0 : Nat → List Int → Int → Bool → Option (List Int × Bool)
 | 0, _, _, _ => none
 | k + 1, x0, x1, x16 => if x16 = true then (some (([] : List Int), false)) else (if 0 ≤ x1 then (if x1 ≤ (x0.length : Int) then ((impl_continuant.f k (x0.take (x1 : Int).toNat) (-1)).bind fun t267 => ((impl_continuant.f k (x0.drop (x1 : Int).toNat) (-1)).bind fun t269 => (if 0 ≤ (wrap64 (x1 - 1)) then (if (wrap64 (x1 - 1)) ≤ (x0.length : Int) then ((impl_continuant.f k (x0.take ((wrap64 (x1 - 1)) : Int).toNat) (-1)).bind fun t271 => (if 0 ≤ (wrap64 (x1 + 1)) then (if (wrap64 (x1 + 1)) ≤ (x0.length : Int) then ((impl_continuant.f k (x0.drop ((wrap64 (x1 + 1)) : Int).toNat) (-1)).bind fun t273 => (some ((([t267, t269, t271, t273] : List Int)), true))) else (none)) else (none))) else (none)) else (none)))) else (none)) else (none))
def impl_SplitContinuant.f (k : Nat) (l0 : List Int) (a1 : Int) : Option (List Int × Bool) := (impl_IsTermList.f k l0).bind fun t264 => (if t264 = true then ((impl_within.f a1 1 (wrap64 ((l0.length : Int) - 1))).bind fun t265 => (impl_SplitContinuant.j0 k l0 a1 (!t265))) else (impl_SplitContinuant.j0 k l0 a1 true))
def impl_SplitContinuant.T3 : Bool × List (List Nat × List Nat) := (true, [([], []), ([], []), ([0, 1], [0, 1]), ([2], [2]), ([], []), ([], []), ([4, 5], [4, 5]), ([6, 3], [6]), ([], []), ([], []), ([9], [9]), ([8, 10], [8, 10]), ([11, 7], [11]), ([], []), ([], []), ([14], [14]), ([13, 15], [13, 15]), ([16, 12], [16]), ([3, 7, 12, 17], [3, 7, 12, 17]), ([18, 17, 0, 1, 2, 3, 4, 5, 6, 7, 8, 9, 10, 11, 12, 13, 14, 15, 16, 17, 18], [18]), ([19, 0, 1, 2, 3, 4, 5, 6, 7, 8, 9, 10, 11, 12, 13, 14, 15, 16, 17, 18, 19], [])])
def impl_SplitContinuant.B3 : List Nat := [0, 0, 3, 7, 0, 0, 48, 127, 0, 0, 512, 1792, 4095, 0, 0, 16384, 57344, 131071, 262143, 524287, 1048575]
theorem impl_SplitContinuant.tab3 : rtab .any (opsOf Tryz.f23 3) = impl_SplitContinuant.T3 := by kernel_rfl
theorem impl_SplitContinuant.bits3 : waitsOk impl_SplitContinuant.T3.2 impl_SplitContinuant.B3 = true := by kernel_rfl
set_option maxHeartbeats 8000000 in
set_option maxRecDepth 100000 in
theorem impl_SplitContinuant.calls (k : Nat) (A0 : Option Addr) (c0 : Nat) (l0 : List Int) (a1 : Int) (r1 : List Int) (r2 : Bool) (w : World) (hr0 : Kd.C (Kd.int .i64) w A0 l0.length l0) (hc0 : l0.length ≤ c0) (h : impl_SplitContinuant.f k l0 a1 = some (r1, r2)) :
  Calls Tryz.prog 23 #[.slice A0 l0.length c0, .int .i64 a1] w fun e w' => ∃ v0_ : Value, e = .returned (.tuple #[v0_, .bool r2]) ∧ Kd.R (Kd.int .i64) 3 w' w.heap.size (fun _ => True) v0_ r1 ∧ Below w.heap.size w w' := by
 have HR0 := Aside0.mk hr0; have HC0 := Aside0.mk hc0; clear hr0 hc0; have HB := Aside0.mk (Below.refl w.heap.size w); have H : ((impl_IsTermList.f k l0).bind fun t264 => (if t264 = true then ((impl_within.f a1 1 (wrap64 ((l0.length : Int) - 1))).bind fun t265 => (impl_SplitContinuant.j0 k l0 a1 (!t265))) else (impl_SplitContinuant.j0 k l0 a1 true))) = some (r1, r2) := h
 clear h; have HC3 := Aside0.mk H; clear H
 go_enter Tryz.func23, Tryz.ntmps23
 go_upto_region 1 with (fail)
 go_cut [16] (fun v16 wc => ∃ (kq : Nat) (x16_2 : Bool), v16 = .bool x16_2 ∧ Aside0 (impl_SplitContinuant.j0 kq l0 a1 x16_2 = some (r1, r2)) ∧ Aside0 (kq ≤ k) ∧ Aside0 (Below w.heap.size w wc))
 case first =>
  have H := HC3.out; clear HC3; replace H := Option.bind_eq_some_iff.mp H; obtain ⟨t264, A40, H⟩ := H; have A4 := Aside0.mk A40; clear A40
  by_cases c5 : t264 = true
  ·subst c5
   rw [if_pos rfl] at H
   replace H := Option.bind_eq_some_iff.mp H; obtain ⟨t265, A60, H⟩ := H; have A6 := Aside0.mk A60; clear A60; have H' := Aside0.mk H; clear H
   go_wp2_with (first | ((with_reducible refine gate_callee (f := 18) rfl ?_); refine gl_ (some 7) Tryz.func18 #[.slice A0 l0.length c0] rfl ?_; (with_reducible refine (impl_IsTermList.calls k _ _ l0 true _ ?side1 ?side2 A4.out).mono ?_); (case side1 => exact cc_ (Kd.C_below HR0.out HB.out)); (case side2 => exact HC0.out); rintro e w' ⟨rfl, ⟨nd, rfl⟩⟩; refine ⟨_, rfl, ?_⟩) | (go_at_call 43; (with_reducible refine (impl_within.calls a1 1 (wrap64 ((l0.length : Int) - 1)) t265 _ A6.out).mono ?_); rintro e w' ⟨rfl, ⟨nd, rfl⟩⟩))
   go_meet
   case rel => exact ⟨_, (!t265), (fs_), H', ⟨by first | omega | exact Nat.le_refl _⟩, ⟨bl_ HB.out⟩⟩
  ·replace c5 := Bool.eq_false_iff.mpr c5
   subst c5; rw [if_neg (show ¬ (false = true) by decide)] at H
   have H' := Aside0.mk H; clear H
   go_wp2_with (first | ((with_reducible refine gate_callee (f := 18) rfl ?_); refine gl_ (some 7) Tryz.func18 #[.slice A0 l0.length c0] rfl ?_; (with_reducible refine (impl_IsTermList.calls k _ _ l0 false _ ?side1 ?side2 A4.out).mono ?_); (case side1 => exact cc_ (Kd.C_below HR0.out HB.out)); (case side2 => exact HC0.out); rintro e w' ⟨rfl, ⟨nd, rfl⟩⟩; refine ⟨_, rfl, ?_⟩))
   go_meet
   case rel => exact ⟨_, (true), (fs_), H', ⟨by first | omega | exact Nat.le_refl _⟩, ⟨bl_ HB.out⟩⟩
 case rest =>
  clear HC3
  try clear c1
  try clear c2
  try clear p2
  try clear c5
  try clear p6
  obtain ⟨kq, x16_2, rfl, HA, HJ2, HB⟩ := hcut
  cases kq with
  | zero => exact absurd HA.out (by simp [impl_SplitContinuant.j0])
  | succ kj2 =>
   have H := HA.out; clear HA
   simp only [impl_SplitContinuant.j0] at H
   by_cases c7 : x16_2 = true
   ·subst c7
    rw [if_pos rfl] at H
    simp only [Option.some.injEq, Prod.mk.injEq] at H
    obtain ⟨rfl, rfl⟩ := H
    go_wp2
    go_ret2
    exact ⟨_, by first | rfl | (simp [errW_none, errW_some] <;> rfl) | (simp [*, errW_none, errW_some] <;> rfl), by first | exact Kd.R_nil _ _ _ _ _ | exact Kd.N_nil _ _ _ _ _ | exact Kd.V_nil _ _ _ _ _ | exact Kd.Q_nil _ _ _ _ _ | exact Kd.S_nil _ _ _ _ _, bl_ HB.out⟩
   ·replace c7 := Bool.eq_false_iff.mpr c7
    subst c7; rw [if_neg (show ¬ (false = true) by decide)] at H
    by_cases c8 : 0 ≤ a1
    ·rw [if_pos c8] at H
     have c8b0 := eq_true c8; have c8b1 : decide (0 ≤ a1) = true := decide_eq_true c8; clear c8
     by_cases c9 : a1 ≤ (l0.length : Int)
     ·rw [if_pos c9] at H
      have c9b0 := eq_true c9; have c9b1 : decide (a1 ≤ (l0.length : Int)) = true := decide_eq_true c9; clear c9; replace H := Option.bind_eq_some_iff.mp H; obtain ⟨t267, A100, H⟩ := H; have A10 := Aside0.mk A100; clear A100; have c11b0 := eq_true (of_decide_eq_true as_ : 0 ≤ a1); have c12b0 := eq_true (of_decide_eq_true as_ : a1 ≤ (l0.length : Int)); replace H := Option.bind_eq_some_iff.mp H; obtain ⟨t269, A130, H⟩ := H; have A13 := Aside0.mk A130; clear A130; obtain ⟨ji14, hji14⟩ : ∃ j_ : Int, (wrap64 (a1 - 1)) = j_ := ⟨_, rfl⟩; replace H : (if 0 ≤ (ji14) then (if (ji14) ≤ (l0.length : Int) then ((impl_continuant.f kj2 (l0.take ((ji14) : Int).toNat) (-1)).bind fun t271 => (if 0 ≤ (wrap64 (a1 + 1)) then (if (wrap64 (a1 + 1)) ≤ (l0.length : Int) then ((impl_continuant.f kj2 (l0.drop ((wrap64 (a1 + 1)) : Int).toNat) (-1)).bind fun t273 => (some ((([t267, t269, t271, t273] : List Int)), true))) else (none)) else (none))) else (none)) else (none)) = some (r1, r2) := by first | (rw [hji14] at H; exact H) | (simp only [hji14] at H ⊢; exact H)
      (try rw [hji14] at A10)
      (try rw [hji14] at A13)
      have hji14w : (IntKind.i64.wrap (a1 - 1)) = ji14 := (i64_w _).trans hji14
      by_cases c15 : 0 ≤ (ji14)
      ·rw [if_pos c15] at H
       have c15b0 := eq_true c15; have c15b1 : decide (0 ≤ (ji14)) = true := decide_eq_true c15; clear c15
       by_cases c16 : (ji14) ≤ (l0.length : Int)
       ·rw [if_pos c16] at H
        have c16b0 := eq_true c16; have c16b1 : decide ((ji14) ≤ (l0.length : Int)) = true := decide_eq_true c16; clear c16; replace H := Option.bind_eq_some_iff.mp H; obtain ⟨t271, A170, H⟩ := H; have A17 := Aside0.mk A170; clear A170; obtain ⟨ji18, hji18⟩ : ∃ j_ : Int, (wrap64 (a1 + 1)) = j_ := ⟨_, rfl⟩; replace H : (if 0 ≤ (ji18) then (if (ji18) ≤ (l0.length : Int) then ((impl_continuant.f kj2 (l0.drop ((ji18) : Int).toNat) (-1)).bind fun t273 => (some ((([t267, t269, t271, t273] : List Int)), true))) else (none)) else (none)) = some (r1, r2) := by first | (rw [hji18] at H; exact H) | (simp only [hji18] at H ⊢; exact H)
        (try rw [hji18] at A10)
        (try rw [hji18] at A13)
        (try rw [hji18] at A17)
        have hji18w : (IntKind.i64.wrap (a1 + 1)) = ji18 := (i64_w _).trans hji18
        by_cases c19 : 0 ≤ (ji18)
        ·rw [if_pos c19] at H
         have c19b0 := eq_true c19; have c19b1 : decide (0 ≤ (ji18)) = true := decide_eq_true c19; clear c19
         by_cases c20 : (ji18) ≤ (l0.length : Int)
         ·rw [if_pos c20] at H
          have c20b0 := eq_true c20; have c20b1 : decide ((ji18) ≤ (l0.length : Int)) = true := decide_eq_true c20; clear c20; replace H := Option.bind_eq_some_iff.mp H; obtain ⟨t273, A210, H⟩ := H; have A21 := Aside0.mk A210; clear A210; obtain ⟨y274, hy274⟩ : ∃ y_ : List Int, y_ = (([t267, t269, t271, t273] : List Int)) := ⟨_, rfl⟩; replace H : (some (y274, true)) = some (r1, r2) := rh_ hy274 H; have Ny274 := Aside0.mk hy274; clear hy274
          simp only [Option.some.injEq, Prod.mk.injEq] at H
          obtain ⟨rfl, rfl⟩ := H
          try go_wp2
          replace HB := Aside0.mk (below_drew1 HB.out); obtain ⟨i023, hi023, _, hsz23, _⟩ := info_parts info3; obtain ⟨hcut23, hA23, hC23⟩ := print_take_of (P := Tryz.prog) (Value.int .i64) 0 24 3 .i64 Tryz.underlying24 hi023 hsz23 A0 c0 l0 a1 (of_decide_eq_true as_) (of_decide_eq_true as_) HC0.out; have HR266 := Aside0.mk (Kd.C_of_reads (h1 := fun _ => rfl) (hA23 _ (Kd.reads_of_C HR0.out)))
          have HC266 := Aside0.mk hC23; clear hA23 hC23 hi023 hsz23; obtain ⟨i024, hi024, _, hsz24, _⟩ := info_parts info3; obtain ⟨A24, hcut24, hA24, hC24⟩ := print_drop_of (P := Tryz.prog) (Value.int .i64) 0 24 3 .i64 Tryz.underlying24 hi024 hsz24 A0 c0 l0 a1 (of_decide_eq_true as_) (of_decide_eq_true as_) HC0.out; have HR268 := Aside0.mk (Kd.C_of_reads (h1 := fun _ => rfl) (hA24 _ (Kd.reads_of_C HR0.out)))
          have HC268 := Aside0.mk hC24; clear hA24 hC24 hi024 hsz24; obtain ⟨i025, hi025, _, hsz25, _⟩ := info_parts info3; obtain ⟨hcut25, hA25, hC25⟩ := print_take_of (P := Tryz.prog) (Value.int .i64) 0 24 3 .i64 Tryz.underlying24 hi025 hsz25 A0 c0 l0 (ji14) (of_decide_eq_true as_) (of_decide_eq_true as_) HC0.out; have HR270 := Aside0.mk (Kd.C_of_reads (h1 := fun _ => rfl) (hA25 _ (Kd.reads_of_C HR0.out)))
          have HC270 := Aside0.mk hC25; clear hA25 hC25 hi025 hsz25; obtain ⟨i026, hi026, _, hsz26, _⟩ := info_parts info3; obtain ⟨A26, hcut26, hA26, hC26⟩ := print_drop_of (P := Tryz.prog) (Value.int .i64) 0 24 3 .i64 Tryz.underlying24 hi026 hsz26 A0 c0 l0 (ji18) (of_decide_eq_true as_) (of_decide_eq_true as_) HC0.out; have HR272 := Aside0.mk (Kd.C_of_reads (h1 := fun _ => rfl) (hA26 _ (Kd.reads_of_C HR0.out)))
          have HC272 := Aside0.mk hC26; clear hA26 hC26 hi026 hsz26; refine start_ (n := 21) (S := fun w' => True) (ds := []) #[false, false, false, false, false, false, false, false, false, false, false, false, false, false, false, false, false, false, false, false, false] (by kernel_rfl) rfl rfl trivial (fun hHeld => ?_); refine with_tabW impl_SplitContinuant.tab3 impl_SplitContinuant.bits3 (fun HT_ HW_ => ?_)
          generalize wc.drew = w22 at HB HR266 HR268 HR270 HR272 hHeld ⊢
          refine pa_ 0 (some 17) rfl rfl HT_ ?_; refine pa_ 1 (some 18) rfl rfl HT_ ?_; refine pa_ 2 (some 19) rfl rfl HT_ ?_; refine pa_ 4 (some 21) rfl rfl HT_ ?_; refine pa_ 5 (some 22) rfl rfl HT_ ?_; refine pa_ 6 (some 23) rfl rfl HT_ ?_; refine pa_ 8 (some 25) rfl rfl HT_ ?_; refine pa_ 9 (some 26) rfl rfl HT_ ?_; refine pa_ 10 (some 27) rfl rfl HT_ ?_; refine pa_ 11 (some 28) rfl rfl HT_ ?_; refine pa_ 13 (some 30) rfl rfl HT_ ?_; refine pa_ 14 (some 31) rfl rfl HT_ ?_; refine pa_ 15 (some 32) rfl rfl HT_ ?_; refine pa_ 16 (some 33) rfl rfl HT_ ?_; refine one_ (i := 3) (N := some 20) #[true, true, true, true, true, true, true, false, true, true, true, true, false, true, true, true, true, false, false, false, false] rfl rfl (one_of HT_.out (by kernel_rfl)) (by decide) (fun K hK => ?_)
          refine goes_ Tryz.func36 (by kernel_rfl) rfl #[.slice A0 (l0.take (a1 : Int).toNat).length c0, .int .i64 (-1)] (by rfl) rfl rfl (by (try simp only [List.map_toArray, List.map_cons, List.map_nil]); first | done | (rw [show (l0.take (a1 : Int).toNat).length = a1.toNat from (by rw [List.length_take]; have h_ : (a1 : Int) ≤ (l0.length : Int) := of_decide_eq_true as_; omega)] <;> rfl) | rfl | (simp only [List.length_drop, List.length_take]; rfl)) ?_
          with_reducible refine (impl_continuant.calls kj2 _ _ (l0.take (a1 : Int).toNat) (-1) t267 _ ?side1 ?side2 A10.out).mono ?_
          (case side1 => exact cc_ (Kd.C_below HR266.out HB.out))
          (case side2 => exact HC266.out)
          rintro e w' ⟨rfl, ⟨nd, rfl⟩⟩
          refine ⟨_, rfl, ?_⟩; refine hK.out _ _ trivial (fun hHeld => ?_)
          clear hK K; refine na_ (some 20) ?_; refine one_ (i := 7) (N := some 24) #[true, true, true, true, true, true, true, true, true, true, true, true, false, true, true, true, true, false, false, false, false] rfl rfl (one_of HT_.out (by kernel_rfl)) (by decide) (fun K hK => ?_)
          refine goes_ Tryz.func36 (by kernel_rfl) rfl #[.slice A24 (l0.drop (a1 : Int).toNat).length (c0 - a1.toNat), .int .i64 (-1)] (by rfl) rfl rfl (by (try simp only [List.map_toArray, List.map_cons, List.map_nil]); first | done | (rw [show (l0.drop (a1 : Int).toNat).length = (l0.length - a1.toNat) from List.length_drop] <;> rfl) | rfl | (simp only [List.length_drop, List.length_take]; rfl)) ?_
          with_reducible refine (impl_continuant.calls kj2 _ _ (l0.drop (a1 : Int).toNat) (-1) t269 _ ?side1 ?side2 A13.out).mono ?_
          (case side1 => exact cc_ (Kd.C_below HR268.out (bl_ HB.out)))
          (case side2 => exact HC268.out)
          rintro e w' ⟨rfl, ⟨nd, rfl⟩⟩
          refine ⟨_, rfl, ?_⟩; refine hK.out _ _ trivial (fun hHeld => ?_)
          clear hK K; refine na_ (some 24) ?_; refine one_ (i := 12) (N := some 29) #[true, true, true, true, true, true, true, true, true, true, true, true, true, true, true, true, true, false, false, false, false] rfl rfl (one_of HT_.out (by kernel_rfl)) (by decide) (fun K hK => ?_)
          refine goes_ Tryz.func36 (by kernel_rfl) rfl #[.slice A0 (l0.take ((ji14) : Int).toNat).length c0, .int .i64 (-1)] (by rfl) rfl rfl (by (try simp only [List.map_toArray, List.map_cons, List.map_nil]); first | done | (rw [show (l0.take ((ji14) : Int).toNat).length = (ji14).toNat from (by rw [List.length_take]; have h_ : ((ji14) : Int) ≤ (l0.length : Int) := of_decide_eq_true as_; omega)] <;> rfl) | (simp only [hji14]; rfl) | rfl | (simp only [List.length_drop, List.length_take]; rfl)) ?_
          with_reducible refine (impl_continuant.calls kj2 _ _ (l0.take ((ji14) : Int).toNat) (-1) t271 _ ?side1 ?side2 A17.out).mono ?_
          (case side1 => exact cc_ (Kd.C_below HR270.out (bl_ HB.out)))
          (case side2 => exact HC270.out)
          rintro e w' ⟨rfl, ⟨nd, rfl⟩⟩
          refine ⟨_, rfl, ?_⟩; refine hK.out _ _ trivial (fun hHeld => ?_)
          clear hK K; refine na_ (some 29) ?_; refine one_ (i := 17) (N := some 34) #[true, true, true, true, true, true, true, true, true, true, true, true, true, true, true, true, true, true, false, false, false] rfl rfl (one_of HT_.out (by kernel_rfl)) (by decide) (fun K hK => ?_)
          refine goes_ Tryz.func36 (by kernel_rfl) rfl #[.slice A26 (l0.drop ((ji18) : Int).toNat).length (c0 - (ji18).toNat), .int .i64 (-1)] (by rfl) rfl rfl (by (try simp only [List.map_toArray, List.map_cons, List.map_nil]); first | done | (rw [show (l0.drop ((ji18) : Int).toNat).length = (l0.length - (ji18).toNat) from List.length_drop] <;> rfl) | (simp only [hji18]; rfl) | rfl | (simp only [List.length_drop, List.length_take]; rfl)) ?_
          with_reducible refine (impl_continuant.calls kj2 _ _ (l0.drop ((ji18) : Int).toNat) (-1) t273 _ ?side1 ?side2 A21.out).mono ?_
          (case side1 => exact cc_ (Kd.C_below HR272.out (bl_ HB.out)))
          (case side2 => exact HC272.out)
          rintro e w' ⟨rfl, ⟨nd, rfl⟩⟩
          refine ⟨_, rfl, ?_⟩; refine hK.out _ _ trivial (fun hHeld => ?_)
          clear hK K; refine na_ (some 34) ?_; refine one_ (i := 18) (N := some 35) #[true, true, true, true, true, true, true, true, true, true, true, true, true, true, true, true, true, true, true, false, false] rfl rfl (one_of HT_.out (by kernel_rfl)) (by decide) (fun K hK => ?_)
          refine Kd.R_lit_step (Kd.int .i64) _ 3 ?hg (N := 35) ?hd (xs := ([t267, t269, t271, t273] : List Int)) (inner := [.int .i64 t267, .int .i64 t269, .int .i64 t271, .int .i64 t273]) (ok := fun _ => True) (okp := fun _ => True) ?hr ?hp (fun _ hk => hk) trivial (Below.refl _ _) (Nat.le_refl _) (by simp) ?_; (case hd => rfl); (case hg => rfl); (case hr => first | (go_simp; done) | (go_simp; rfl)); (case hp => exact (Reps.one (show Kd.M (Kd.int .i64) _ _ _ t267 [.int .i64 t267] from rfl) (Reps.one (show Kd.M (Kd.int .i64) _ _ _ t269 [.int .i64 t269] from rfl) (Reps.one (show Kd.M (Kd.int .i64) _ _ _ t271 [.int .i64 t271] from rfl) (Reps.one (show Kd.M (Kd.int .i64) _ _ _ t273 [.int .i64 t273] from rfl) (Reps.none _ _))))))
          intro v275 w27 ho28 hb hg_ hnew_; clear hg_ hnew_
          (first | rw [← Ny274.out] at ho28 | (simp only [Int.reduceToNat] at ho28; rw [← Ny274.out] at ho28))
          have HO276 := Aside0.mk (Kd.R_lower ho28 (below_size (bl_ HB.out))); replace HB := Aside0.mk (below_step (bl_ HB.out) hb); clear hb ho28; refine hK.out _ _ trivial (fun hHeld => ?_)
          clear hK K; refine na_ (some 35) ?_; refine pa_ 19 (some 4) rfl rfl HT_ ?_; refine pa_ 20 (some 5) rfl rfl HT_ ?_; refine done_ (done_of HT_.out (by kernel_rfl)) ?_
          try go_wp2
          go_ret2
          exact ⟨_, by first | rfl | (simp [errW_none, errW_some] <;> rfl) | (simp only [← hji14, ← hji18]; first | rfl | (simp [errW_none, errW_some] <;> rfl)) | (simp [*, errW_none, errW_some] <;> rfl), by (with_reducible repeat (first | apply Kd.R_alloc | apply Kd.R_drewN | apply Kd.R_drew)); exact HO276.out, bl_ HB.out⟩
         ·rw [if_neg c20] at H
          exact absurd H (by simp)
        ·rw [if_neg c19] at H
         exact absurd H (by simp)
       ·rw [if_neg c16] at H
        exact absurd H (by simp)
      ·rw [if_neg c15] at H
       exact absurd H (by simp)
     ·rw [if_neg c9] at H
      exact absurd H (by simp)
    ·rw [if_neg c8] at H
     exact absurd H (by simp)
def impl_isPolygon.f (a0 : Int) : Option (Bool) := (impl_within.f a0 3 12).bind fun t364 => (some t364)
set_option maxHeartbeats 8000000 in
set_option maxRecDepth 100000 in
theorem impl_isPolygon.calls (a0 : Int) (r : Bool) (w : World) (h : impl_isPolygon.f a0 = some r) :
  Calls Tryz.prog 74 #[.int .i64 a0] w fun e w' => e = .returned (.bool r) ∧ Drawn0 w w' := by
 have H : ((impl_within.f a0 3 12).bind fun t364 => (some t364)) = some r := h
 clear h; replace H := Option.bind_eq_some_iff.mp H; obtain ⟨t364, A20, H⟩ := H; have A2 := Aside0.mk A20; clear A20; obtain rfl := Option.some.inj H
 go_enter Tryz.func74, Tryz.ntmps74
 go_wp2_with (first | ((with_reducible refine gate_callee (f := 43) rfl ?_); refine gl_ (some 4) Tryz.func43 #[.int .i64 a0, .int .i64 3, .int .i64 12] rfl ?_; (with_reducible refine (impl_within.calls a0 3 12 t364 _ A2.out).mono ?_); rintro e w' ⟨rfl, ⟨nd, rfl⟩⟩; refine ⟨_, rfl, ?_⟩))
 go_ret
 exact ⟨fs_, dr_⟩
def slices_Clone_int_int.f (l0 : List Int) : Option (List Int) := if 0 < l0.length ∧ l0.length ≤ 1048576 then some l0 else none
set_option maxHeartbeats 4000000 in
set_option maxRecDepth 100000 in
theorem slices_Clone_int_int.calls (A0 : Option Addr) (c0 : Nat) (l0 : List Int) (r : List Int) (w : World) (hr0 : Kd.C (Kd.int .i64) w A0 l0.length l0) (hc0 : l0.length ≤ c0) (h : slices_Clone_int_int.f l0 = some r) :
  Calls Tryz.prog 75 #[.slice A0 l0.length c0] w fun e w' => ∃ v0_ : Value, e = .returned (v0_) ∧ Kd.R (Kd.int .i64) 3 w' w.heap.size (fun _ => True) v0_ r ∧ Below w.heap.size w w' := by
 unfold slices_Clone_int_int.f at h
 by_cases hc : 0 < l0.length ∧ l0.length ≤ 1048576
 case neg => rw [if_neg hc] at h; cases h
 rw [if_pos hc] at h
 obtain ⟨h0, h1⟩ := hc; obtain rfl := Option.some.inj h; clear h; obtain ⟨ad, rfl, _⟩ := Kd.at_int hr0 0 (by omega) (by omega)
 have HR := Aside0.mk (Kd.reads_of_C (d := (0 : Int)) hr0); clear hr0; have q : ∀ (w : World) (a : Option Addr) (n c n' c' : Nat), (binOp .eql 24 (.slice a n c) (.slice none n' c')).run Tryz.prog w = .ok (.bool a.isNone) w := fun w a n c n' c' => Lib.run_eql_slice_nil w _ _ a n c n' c' Tryz.underlying24
 have HO := Aside0.mk (World.ownsRow_made (e := 3) (size := 1) w #[] 0 (Nat.le_refl _) (Nat.zero_le _) rfl)
 go_enter Tryz.func75, Tryz.ntmps75
 go_wp2_with (first | ((with_reducible refine gate_builtin (b := .append) rfl ?_); (refine print_append_row_of (w0 := w) (Value.int .i64) (0 : Int) w.heap.size rfl _ _ 24 3 (.int .i64 0) 8 rfl Tryz.underlying24 info3 rfl (by decide) (fun _ => rfl) (.slice (some ⟨w.heap.size, 0, none⟩) 0 0) [] l0 (some ad) l0.length c0 rfl rfl HO.out (HR.out.below (below_alloc (Below.refl _ _) _)) (below_alloc (Below.refl _ _) _) (by simp) (by simp only [List.length_nil]; omega) ?_; intro v1 w1 ho1 hb1 hg1 hat1)))
 go_ret
 exact ⟨_, rfl, Kd.R_of_own (by simpa using ho1) (fun _ _ => trivial), hb1⟩
def slices_Delete_int_int.f (l0 : List Int) (a1 : Int) (a2 : Int) : Option (List Int) := if (0 ≤ a1 ∧ a1 < l0.length) ∧ a2 = a1 + 1 then some (l0.eraseIdx a1.toNat) else none
theorem slices_Delete_int_int.row {g : Nat} {e : TypeId} {cur : Array Value} (vs : List Value) (w : World) (h : w.heap[g]? = some (.cells cur e (0, 0))) (hl : vs.length ≤ cur.size) :
  ∃ cur', (w.setCells g 0 vs).heap[g]? = some (.cells cur' e (0, 0)) ∧ cur'.size = cur.size ∧ ∀ m, m ≤ vs.length → cur'.toList.take m = vs.take m := by
 obtain ⟨cur', h1, h2, h3⟩ := setCells_row vs 0 w cur h (by omega)
 refine ⟨cur', h1, h2, fun m hm => ?_⟩
 rw [h3, List.take_zero, List.nil_append, List.take_append_of_le_length hm]
theorem slices_Delete_int_int.bel {w0 : World} {g : Nat} (hg : w0.heap.size ≤ g) (vs : List Value) (o : Nat) (w : World) (h : Below w0.heap.size w0 w) : Below w0.heap.size w0 (w.setCells g o vs) := by
 obtain ⟨h1, h2, h3, h4⟩ := setCells_same g vs o w; exact ⟨h1.trans h.os, h2.trans h.tape, h3.trans h.output, by rw [h4]; exact h.size, fun k hk => (setCells_far vs o k (by omega)).trans (h.block k hk)⟩
theorem slices_Delete_int_int.kept (P0_ : Nat → Prop) {g : Nat} (hg : P0_ g) (vs : List Value) (o : Nat) (w : World) (q : Nat) : Kept w ((w.drewN q).setCells g o vs) (fun k_ => P0_ k_) := by
 obtain ⟨_, _, _, h4⟩ := setCells_same g vs o (w.drewN q); exact ⟨by rw [h4]; exact Nat.le_refl _, fun i hi hn => setCells_far vs o i (fun e => hn (e ▸ hg))⟩
theorem slices_Delete_int_int.calls (P0_ : Nat → Prop) (u9000_ : Value) (l0 : List Int) (a1 : Int) (a2 : Int) (r : List Int) (w0 w : World) (hB : Below w0.heap.size w0 w) (ho0 : Kd.R (Kd.int .i64) 3 w w0.heap.size P0_ u9000_ l0) (h : slices_Delete_int_int.f l0 a1 a2 = some r) :
  Calls Tryz.prog 76 #[u9000_, .int .i64 a1, .int .i64 a2] w fun e w' => ∃ v0_ : Value, e = .returned (v0_) ∧ Kd.R (Kd.int .i64) 3 w' w0.heap.size (fun k_ => (P0_ k_ ∨ w.heap.size ≤ k_)) v0_ r ∧ Below w0.heap.size w0 w' ∧ Kept w w' (fun k_ => P0_ k_) := by
 unfold slices_Delete_int_int.f at h
 by_cases hc : (0 ≤ a1 ∧ a1 < l0.length) ∧ a2 = a1 + 1
 case neg => rw [if_neg hc] at h; cases h
 rw [if_pos hc] at h
 obtain rfl := Option.some.inj h; obtain ⟨⟨h0, h1⟩, rfl⟩ := hc; obtain ⟨i, rfl⟩ : ∃ i : Nat, a1 = i := ⟨a1.toNat, by omega⟩
 have hown := Kd.own_of_R ho0; have hP := ho0.1
 rcases hown.2 with ⟨_, hn⟩ | ⟨g, cap, cur, rfl, hbase, hheap, hnc, hcap, hcur, htake⟩
 ·omega
 have hP0 : P0_ g := hP g rfl; rw [Nat.mul_one] at htake hcur
 have hmx : maxLen = 9223372036854775807 := rfl
 have hat : ∀ j, j < l0.length → cur[j]? = some (.int .i64 (l0.getD j 0)) := by
  intro j hj; have e := encs_get (enc := Value.int .i64) (d := (0 : Int)) l0 j hj; rw [← htake, List.getElem?_take, if_pos hj] at e
  simpa using e
 have hc : ∀ j, j < l0.length → w.cell? ⟨g, 0 + j, none⟩ = some (.int .i64 (l0.getD j 0)) := fun j hj => by rw [Nat.zero_add, blk_cell hheap j]; exact hat j hj
 have hf : ∀ j, j < l0.length → w.frozen? ⟨g, 0 + j, none⟩ = false := fun j _ => blk_frozen hheap _
 have hlen : i < l0.length := by omega
 have hi1 : ((i : Int) + 1) = ((i + 1 : Nat) : Int) := by omega
 rw [hi1]; refine (Tryz.slices_Delete_int_cells g 0 l0.length cap i (i + 1) l0 w (Nat.le_refl _) hnc (by omega) (by omega) (by omega) hc hf).mono ?_
 rintro e w' ⟨rfl, q, rfl⟩
 have hnl : (((l0.take l0.length).take i ++ (l0.take l0.length).drop (i + 1) ++ List.replicate (i + 1 - i) 0).map (Value.int .i64)) = encs (Value.int .i64) (l0.eraseIdx i ++ [0]) := by
  rw [List.take_length, show i + 1 - i = 1 by omega, List.eraseIdx_eq_take_drop_succ]
  rfl
 rw [hnl]; have hel : (l0.eraseIdx i).length = l0.length - 1 := List.length_eraseIdx_of_lt hlen; have hlv : (encs (Value.int .i64) (l0.eraseIdx i ++ [0])).length = l0.length := by rw [encs_length, List.length_append, hel]; simp; omega
 obtain ⟨cur2, hh2, hs2, ht2⟩ := slices_Delete_int_int.row (encs (Value.int .i64) (l0.eraseIdx i ++ [0])) (w.drewN q) (blk_drewN hheap q) (by rw [hlv]; omega)
 have hbel : Below w0.heap.size w0 ((w.drewN q).setCells g 0 (encs (Value.int .i64) (l0.eraseIdx i ++ [0]))) := slices_Delete_int_int.bel hbase _ _ _ (pw_below_drewN hB q); refine ⟨_, rfl, Kd.R_of_own ?_ (fun k hk => .inl (by have e : g = k := (by simpa [Value.ownBlock] using hk); exact e ▸ hP0)), hbel, slices_Delete_int_int.kept P0_ hP0 _ _ _ q⟩
 rw [show ((i : Int)).toNat = i from Int.toNat_natCast i, hel]
 refine ⟨by simp only [encs_length, hel, Nat.mul_one], .inr ⟨g, cap, cur2, by rw [show i + 1 - i = 1 by omega], hbase, hh2, by omega, hcap, by rw [hs2, Nat.mul_one]; exact hcur, ?_⟩⟩
 rw [Nat.mul_one, ht2 (l0.length - 1) (by omega)]
 rw [encs_append, List.take_append_of_le_length (by rw [encs_length, hel]; exact Nat.le_refl _), List.take_of_length_le (by rw [encs_length, hel]; exact Nat.le_refl _)]
def cmp_Or_int.l0 : Nat → Int → List Int → Int → Int → Option (Int)
 | 0, _, _, _, _ => none
 | k + 1, x3, x6, x7, x8 => if x8 < x7 then (if 0 ≤ x8 then (if x8 < (x6.length : Int) then (if (rd x6 x8) = x3 then (cmp_Or_int.l0 k x3 x6 x7 (wrap64 (x8 + 1))) else (some (rd x6 x8))) else (none)) else (none)) else (some x3)
def cmp_Or_int.f (k : Nat) (l0 : List Int) : Option (Int) := cmp_Or_int.l0 k 0 l0 (l0.length : Int) 0
set_option maxHeartbeats 8000000 in
set_option maxRecDepth 100000 in
theorem cmp_Or_int.calls (k : Nat) (A0 : Option Addr) (c0 : Nat) (l0 : List Int) (r : Int) (w : World) (hr0 : Kd.C (Kd.int .i64) w A0 l0.length l0) (hc0 : l0.length ≤ c0) (h : cmp_Or_int.f k l0 = some r) :
  Calls Tryz.prog 85 #[.slice A0 l0.length c0] w fun e w' => e = .returned (.int .i64 r) ∧ Drawn0 w w' := by
 have HR0 := Aside0.mk hr0; have HC0 := Aside0.mk hc0; clear hr0 hc0; have H : (cmp_Or_int.l0 k 0 l0 (l0.length : Int) 0) = some r := h; clear h; have H' := Aside0.mk H; clear H
 go_enter Tryz.func85, Tryz.ntmps85
 go_wp2
 go_loopg [8] k (fun kq v8 w' => ∃ (x8_1 : Int), v8 = .int .i64 x8_1 ∧ Aside0 (cmp_Or_int.l0 kq 0 l0 (l0.length : Int) x8_1 = some r) ∧ Aside0 (kq ≤ k) ∧ Drawn0 w w')
 case atStart => exact ⟨(0), (fs_), H', ⟨Nat.le_refl _⟩, dr_⟩
 case round =>
  clear H'; obtain ⟨x8_1, rfl, HA, HK1, ⟨m1, rfl⟩⟩ := hrel
  cases gk with
  | zero => exact absurd HA.out (by simp [cmp_Or_int.l0])
  | succ k1 =>
   have H := HA.out; clear HA
   simp only [cmp_Or_int.l0] at H
   by_cases c2 : x8_1 < (l0.length : Int)
   ·rw [if_pos c2] at H
    have c2b0 : decide (x8_1 < (l0.length : Int)) = true := decide_eq_true c2; clear c2
    by_cases c3 : 0 ≤ x8_1
    ·rw [if_pos c3] at H
     have c3b0 : decide (0 ≤ x8_1) = true := decide_eq_true c3; clear c3
     by_cases c4 : x8_1 < (l0.length : Int)
     ·rw [if_pos c4] at H
      have c4b0 : decide (x8_1 < (l0.length : Int)) = true := decide_eq_true c4; clear c4
      by_cases c5 : (rd l0 x8_1) = 0
      ·rw [if_pos c5] at H
       have c5b0 : ((rd l0 x8_1) == 0) = true := beq_iff_eq.mpr c5; have c5b1 : ((rd l0 x8_1) != 0) = false := bne_eq_false_iff_eq.mpr c5; clear c5; have H' := Aside0.mk H; clear H; have p365 : 0 ≤ (x8_1 : Int) := of_decide_eq_true as_; have q365 : x8_1 < (l0.length : Int) := of_decide_eq_true as_; obtain ⟨ad365, e365, hx365_0⟩ := Kd.at_int HR0.out x8_1 p365 q365
       cases e365
       replace p365 := eq_true p365; replace q365 := eq_true q365
       go_wp2
       go_roundg k1
       case measure => have := HK1.out; omega
       case rel => exact ⟨(wrap64 (x8_1 + 1)), (fs_), H', ⟨by have := HK1.out; omega⟩, dr_⟩
      ·rw [if_neg c5] at H
       have c5b0 : ((rd l0 x8_1) == 0) = false := beq_eq_false_iff_ne.mpr c5; have c5b1 : ((rd l0 x8_1) != 0) = true := bne_iff_ne.mpr c5; obtain rfl := Option.some.inj H; have p365 : 0 ≤ (x8_1 : Int) := of_decide_eq_true as_; have q365 : x8_1 < (l0.length : Int) := of_decide_eq_true as_; obtain ⟨ad365, e365, hx365_0⟩ := Kd.at_int HR0.out x8_1 p365 q365
       cases e365
       replace p365 := eq_true p365; replace q365 := eq_true q365
       go_wp2
       go_ret
       exact ⟨fs_, dr_⟩
     ·rw [if_neg c4] at H
      exact absurd H (by simp)
    ·rw [if_neg c3] at H
     exact absurd H (by simp)
   ·rw [if_neg c2] at H
    have c2b0 : decide (x8_1 < (l0.length : Int)) = false := decide_eq_false c2; clear c2; obtain rfl := Option.some.inj H
    go_wp2
    go_ret
    exact ⟨fs_, dr_⟩
def cmp_isNaN_int.f (a0 : Int) : Option (Bool) := some (a0 != a0)
set_option maxHeartbeats 8000000 in
set_option maxRecDepth 100000 in
theorem cmp_isNaN_int.calls (a0 : Int) (r : Bool) (w : World) (h : cmp_isNaN_int.f a0 = some r) :
  Calls Tryz.prog 101 #[.int .i64 a0] w fun e w' => e = .returned (.bool r) ∧ Drawn0 w w' := by
 have H : (some (a0 != a0)) = some r := h; clear h; obtain rfl := Option.some.inj H
 go_enter Tryz.func101, Tryz.ntmps101
 go_wp2
 go_ret
 exact ⟨fs_, dr_⟩
end Go.Proofs.YtcfcnnnkpdhecaaGreat.PFnContinuantsSplit
