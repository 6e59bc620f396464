-- Written for this claim by a program of this session (wip/tools/xprint.py over the kit's printer, wip/tools/shrink.py).
import Derived.Test.YtcfcnnnkpdhecaaDoorPFnExactParseDiagonalsx0
import Derived.Test.YtcfcnnnkpdhecaaDoorPFnExactParseDiagonalsx4
namespace Go.Proofs.YtcfcnnnkpdhecaaDoor.PFnExactParseDiagonals
open Go.RowKit Go.Proofs.YtcfcnnnkpdhecaaDoorW.PrintWords Go.Proofs.YtcfcnnnkpdhecaaDoorW.PrintLast Go.Proofs.YtcfcnnnkpdhecaaDoorW.PrintMore
attribute [local go_sem] max2_int min2_int max_two min_two max_three min_three max_four min_four   -- for this text's walks alone
set_option linter.unusedVariables false
set_option linter.unusedSimpArgs false
def impl_ParseDiagonals.l0 : Nat → ByteArray → List (S37) → List ByteArray → Int → Int → Option ((List (S37)) × Bool)
 | 0, _, _, _, _, _ => none
 | k + 1, x0, x4, x19, x20, x21 => if x21 < x20 then (if 0 ≤ x21 then (if x21 < (x19.length : Int) then ((strings_Cut.f (rdOf ByteArray.empty x19 x21) (⟨#[45]⟩ : ByteArray)).bind fun bt154 => ((strconv_Atoi.f bt154.1).bind fun bt157 => ((strconv_Atoi.f bt154.2.1).bind fun bt159 => (if bt157.2.isNone = true then (if bt159.2.isNone = true then (if x4.length < 8796093022208 then (impl_ParseDiagonals.l0 k x0 (x4 ++ [(⟨bt157.1, bt159.1⟩ : S37)]) x19 x20 (wrap64 (x21 + 1))) else (none)) else (some (([] : List (S37)), false))) else (some (([] : List (S37)), false)))))) else (none)) else (none)) else ((impl_isListed.f k x4).bind fun t166 => (if t166 = true then ((impl_diagonalsText.f k x4).bind fun t167 => (if t167.toList = x0.toList then (some (x4, true)) else (some (([] : List (S37)), false)))) else (some (([] : List (S37)), false))))
def impl_ParseDiagonals.f (k : Nat) (a0 : ByteArray) : Option ((List (S37)) × Bool) := if a0.toList = ([46] : List UInt8) then (some ((([] : List (S37))), true)) else ((strings_SplitN.f a0 (⟨#[44]⟩ : ByteArray) 14).bind fun t150 => (impl_ParseDiagonals.l0 k a0 (([] : List (S37))) t150 (t150.length : Int) 0))
set_option maxHeartbeats 8000000 in
set_option maxRecDepth 100000 in
theorem impl_ParseDiagonals.calls (k : Nat) (a0 : ByteArray) (r1 : List (S37)) (r2 : Bool) (w : World) (h : impl_ParseDiagonals.f k a0 = some (r1, r2)) (hglob : strings_SplitN.Glob w) :
  Calls Tryd.prog 5 #[.string a0] w fun e w' => ∃ v0_ : Value, e = .returned (.tuple #[v0_, .bool r2]) ∧ Kd.R k37 37 w' w.heap.size (fun _ => True) v0_ r1 ∧ Below w.heap.size w w' := by
 have HGL := Aside0.mk hglob; clear hglob; have hu37 := Tryd.underlying37; have hu33 := Tryd.underlying33; have HB := Aside0.mk (Below.refl w.heap.size w); have H : (if a0.toList = ([46] : List UInt8) then (some ((([] : List (S37))), true)) else ((strings_SplitN.f a0 (⟨#[44]⟩ : ByteArray) 14).bind fun t150 => (impl_ParseDiagonals.l0 k a0 (([] : List (S37))) t150 (t150.length : Int) 0))) = some (r1, r2) := h
 clear h
 by_cases c2 : a0.toList = ([46] : List UInt8)
 ·rw [if_pos c2] at H
  have c2b0 : (a0.toList == ([46] : List UInt8)) = true := beq_iff_eq.mpr c2; have c2b1 : (a0.toList != ([46] : List UInt8)) = false := bne_eq_false_iff_eq.mpr c2; clear c2; obtain ⟨y144, hy144⟩ : ∃ y_ : List (S37), y_ = (([] : List (S37))) := ⟨_, rfl⟩; replace H : (some (y144, true)) = some (r1, r2) := rh_ hy144 H; have Ny144 := Aside0.mk hy144; clear hy144
  simp only [Option.some.injEq, Prod.mk.injEq] at H
  obtain ⟨rfl, rfl⟩ := H
  go_enter Tryd.func5, Tryd.ntmps5
  go_wp2_with (first | ((with_reducible refine gate_dst (N := 16) rfl ?_); refine Kd.R_lit k37 _ 37 ?hg (N := 16) ?hd (xs := ([] : List (S37))) (inner := []) (ok := fun _ => True) (okp := fun _ => True) ?hr ?hp (fun _ hk => hk) trivial (Below.refl _ _) (Nat.le_refl _) (by simp) ?_; (case hd => rfl); (case hg => rfl); (case hr => first | (go_simp; done) | (go_simp; rfl)); (case hp => exact (Reps.none _ _)); intro v145 w3 ho4 hb hg_ hnew_; clear hg_ hnew_; (first | rw [← Ny144.out] at ho4 | (simp only [Int.reduceToNat] at ho4; rw [← Ny144.out] at ho4)); have HO146 := Aside0.mk (Kd.R_lower ho4 (below_size (bl_ HB.out))); replace HB := Aside0.mk (below_step (bl_ HB.out) hb); clear hb ho4))
  go_ret2
  exact ⟨_, by first | rfl | (simp [errW_none, errW_some] <;> rfl) | (simp [*, errW_none, errW_some] <;> rfl), by (with_reducible repeat (first | apply Kd.R_alloc | apply Kd.R_drewN | apply Kd.R_drew)); exact HO146.out, bl_ HB.out⟩
 ·rw [if_neg c2] at H
  have c2b0 : (a0.toList == ([46] : List UInt8)) = false := beq_eq_false_iff_ne.mpr c2; have c2b1 : (a0.toList != ([46] : List UInt8)) = true := bne_iff_ne.mpr c2; obtain ⟨y147, hy147⟩ : ∃ y_ : List (S37), y_ = (([] : List (S37))) := ⟨_, rfl⟩; replace H : ((strings_SplitN.f a0 (⟨#[44]⟩ : ByteArray) 14).bind fun t150 => (impl_ParseDiagonals.l0 k a0 y147 t150 (t150.length : Int) 0)) = some (r1, r2) := rh_ hy147 H
  have Ny147 := Aside0.mk hy147; clear hy147; replace H := Option.bind_eq_some_iff.mp H; obtain ⟨t150, A50, H⟩ := H; have A5 := Aside0.mk A50; clear A50; have H' := Aside0.mk H; clear H
  go_enter Tryd.func5, Tryd.ntmps5
  go_wp2_with (first | ((with_reducible refine gate_dst (N := 17) rfl ?_); refine Kd.R_lit k37 _ 37 ?hg (N := 17) ?hd (xs := ([] : List (S37))) (inner := []) (ok := fun _ => True) (okp := fun _ => True) ?hr ?hp (fun _ hk => hk) trivial (Below.refl _ _) (Nat.le_refl _) (by simp) ?_; (case hd => rfl); (case hg => rfl); (case hr => first | (go_simp; done) | (go_simp; rfl)); (case hp => exact (Reps.none _ _)); intro v148 w6 ho7 hb hg_ hnew_; clear hg_ hnew_; (first | rw [← Ny147.out] at ho7 | (simp only [Int.reduceToNat] at ho7; rw [← Ny147.out] at ho7)); have HO149 := Aside0.mk (Kd.R_lower ho7 (below_size (bl_ HB.out))); replace HB := Aside0.mk (below_step (bl_ HB.out) hb); clear hb ho7) | ((with_reducible refine gate_callee (f := 10) rfl ?_); refine gl_ (some 19) Tryd.func10 #[.string a0, .string (⟨#[44]⟩ : ByteArray), .int .i64 14] rfl ?_; (with_reducible refine (strings_SplitN.calls a0 (⟨#[44]⟩ : ByteArray) 14 t150 _ A5.out (strings_SplitN.Glob.mv HGL.out (bl_ HB.out))).mono ?_); rintro e w8 ⟨v151, rfl, ho0, hb⟩; refine ⟨_, rfl, ?_⟩; replace HO149 := Aside0.mk (Kd.R_below (kr_ HO149.out) hb); have HO152 := Aside0.mk (Kd.R_lower ho0 (below_size (bl_ HB.out))); replace HB := Aside0.mk (below_step (bl_ HB.out) hb); (try clear hb); (try clear hb2); (try clear hk); (try clear hi); (try clear ho0); obtain ⟨Ao9, co9, eo9⟩ := Kd.R_slice HO152.out; subst eo9))
  go_loopg [4, 21] k (fun kq v4 v21 w' => ∃ (x4_1 : List (S37)) (x21_1 : Int), v21 = .int .i64 x21_1 ∧ Aside0 (impl_ParseDiagonals.l0 kq a0 x4_1 t150 (t150.length : Int) x21_1 = some (r1, r2)) ∧ Aside0 (kq ≤ k) ∧ Aside0 (Kd.R k37 37 w' w.heap.size (fun _ => True) v4 x4_1) ∧ Aside0 (Kd.R Kd.string 9 w' w.heap.size (fun _ => True) (.slice Ao9 t150.length co9) t150) ∧ Aside0 (Below w.heap.size w w'))
  case atStart => exact ⟨(y147), (0), (fs_), H', ⟨Nat.le_refl _⟩, ⟨kr_ HO149.out⟩, ⟨kr_ HO152.out⟩, ⟨bl_ HB.out⟩⟩
  case round =>
   clear H'
   try clear c1
   try clear c2
   try clear c2b0
   try clear c2b1
   try clear p2
   try clear c5
   obtain ⟨x4_1, x21_1, rfl, HA, HK1, HO_4, HO_19, HB⟩ := hrel
   cases gk with
   | zero => exact absurd HA.out (by simp [impl_ParseDiagonals.l0])
   | succ k1 =>
    have H := HA.out; clear HA
    simp only [impl_ParseDiagonals.l0] at H
    by_cases c10 : x21_1 < (t150.length : Int)
    ·rw [if_pos c10] at H
     have c10b0 : decide (x21_1 < (t150.length : Int)) = true := decide_eq_true c10; clear c10
     by_cases c11 : 0 ≤ x21_1
     ·rw [if_pos c11] at H
      have c11b0 : decide (0 ≤ x21_1) = true := decide_eq_true c11; clear c11
      by_cases c12 : x21_1 < (t150.length : Int)
      ·rw [if_pos c12] at H
       have c12b0 : decide (x21_1 < (t150.length : Int)) = true := decide_eq_true c12; clear c12; replace H := Option.bind_eq_some_iff.mp H; obtain ⟨⟨t154, t155, t156⟩, A130, H⟩ := H; have A13 := Aside0.mk A130; clear A130; replace H := Option.bind_eq_some_iff.mp H; obtain ⟨⟨t157, t158⟩, A140, H⟩ := H; have A14 := Aside0.mk A140; clear A140; replace H := Option.bind_eq_some_iff.mp H; obtain ⟨⟨t159, t160⟩, A150, H⟩ := H; have A15 := Aside0.mk A150; clear A150
       rcases t158 with _ | q161
       ·have H1 : (if t160.isNone = true then (if x4_1.length < 8796093022208 then (impl_ParseDiagonals.l0 k1 a0 (x4_1 ++ [(⟨t157, t159⟩ : S37)]) t150 (t150.length : Int) (wrap64 (x21_1 + 1))) else (none)) else (some (([] : List (S37)), false))) = some (r1, r2) := by rw [if_pos (show (none : Option Int).isNone = true by rfl)] at H; exact H
        clear H; have H := H1; clear H1
        try simp only [errW_none, errW_some]
        rcases t160 with _ | q162
        ·have H1 : (if x4_1.length < 8796093022208 then (impl_ParseDiagonals.l0 k1 a0 (x4_1 ++ [(⟨t157, t159⟩ : S37)]) t150 (t150.length : Int) (wrap64 (x21_1 + 1))) else (none)) = some (r1, r2) := by rw [if_pos (show (none : Option Int).isNone = true by rfl)] at H; exact H
         clear H; have H := H1; clear H1
         try simp only [errW_none, errW_some]
         by_cases c16 : x4_1.length < 8796093022208
         ·rw [if_pos c16] at H
          have LMc16 := Aside0.mk c16; clear c16; obtain ⟨y163, hy163⟩ : ∃ y_ : List (S37), y_ = (x4_1 ++ [(⟨t157, t159⟩ : S37)]) := ⟨_, rfl⟩; replace H : (impl_ParseDiagonals.l0 k1 a0 y163 t150 (t150.length : Int) (wrap64 (x21_1 + 1))) = some (r1, r2) := rh_ hy163 H; have Ny163 := Aside0.mk hy163; clear hy163; have H' := Aside0.mk H; clear H; have p153 : 0 ≤ (x21_1 : Int) := of_decide_eq_true as_; have q153 : x21_1 < (t150.length : Int) := of_decide_eq_true as_; obtain ⟨ad153, e153, hx153_0⟩ := Kd.at_string (Kd.R_reads' HO_19.out).2.2 x21_1 p153 q153
          cases e153
          replace p153 := eq_true p153; replace q153 := eq_true q153
          go_wp2_with (first | ((with_reducible refine gate_callee (f := 11) rfl ?_); refine gl_ (some 27) Tryd.func11 #[.string (rdOf ByteArray.empty t150 x21_1), .string (⟨#[45]⟩ : ByteArray)] rfl ?_; (with_reducible refine (strings_Cut.calls (rdOf ByteArray.empty t150 x21_1) (⟨#[45]⟩ : ByteArray) t154 t155 t156 _ A13.out (strings_SplitN.Glob.mv HGL.out (bl_ HB.out))).mono ?_); rintro e w17 ⟨rfl, hb⟩; refine ⟨_, rfl, ?_⟩; replace HO_4 := Aside0.mk (Kd.R_below (kr_ HO_4.out) hb); replace HO_19 := Aside0.mk (Kd.R_below (kr_ HO_19.out) hb); replace HB := Aside0.mk (below_step (bl_ HB.out) hb); (try clear hb); (try clear hb2); (try clear hk); (try clear hi)) | ((with_reducible refine gate_callee (f := 12) rfl ?_); refine gl_ (some 33) Tryd.func12 #[.string t154] rfl ?_; (with_reducible refine (strconv_Atoi.calls_none t154 t157 _ A14.out (strings_SplitN.Glob.mv HGL.out (bl_ HB.out))).mono ?_); rintro e w18 ⟨rfl, hb⟩; refine ⟨_, rfl, ?_⟩; replace HO_4 := Aside0.mk (Kd.R_below (kr_ HO_4.out) hb); replace HO_19 := Aside0.mk (Kd.R_below (kr_ HO_19.out) hb); replace HB := Aside0.mk (below_step (bl_ HB.out) hb); (try clear hb); (try clear hb2); (try clear hk); (try clear hi); (try simp only [errW_none, errW_some])) | ((with_reducible refine gate_callee (f := 12) rfl ?_); refine gl_ (some 38) Tryd.func12 #[.string t155] rfl ?_; (with_reducible refine (strconv_Atoi.calls_none t155 t159 _ A15.out (strings_SplitN.Glob.mv HGL.out (bl_ HB.out))).mono ?_); rintro e w19 ⟨rfl, hb⟩; refine ⟨_, rfl, ?_⟩; replace HO_4 := Aside0.mk (Kd.R_below (kr_ HO_4.out) hb); replace HO_19 := Aside0.mk (Kd.R_below (kr_ HO_19.out) hb); replace HB := Aside0.mk (below_step (bl_ HB.out) hb); (try clear hb); (try clear hb2); (try clear hk); (try clear hi); (try simp only [errW_none, errW_some])) | ((with_reducible refine gate_builtin (b := .append) (xs := #[.tmp 47, .tmp 51]) rfl ?_); at_builtin; refine Kd.R_append k37 (w0 := w) w.heap.size rfl (.tmp 47) (.tmp 51) 22 37 (.agg #[(.int .i64 0), (.int .i64 0)]) 16 rfl Tryd.underlying22 info37 rfl (by decide) (by omega) u4 x4_1 (⟨t157, t159⟩ : S37) [.int .i64 t157, .int .i64 t159] (fun _ => True) (fun _ => False) rfl rfl ?aP (fun _ hk => hk.elim) ?aF ?aO ?aB ?aS ?aL ?_; (case aP => exact k37_mkM _ _ _ (⟨t157, t159⟩ : S37)); (case aB => exact (bl_ HB.out)); (case aF => exact (fun _ _ => trivial)); (case aO => exact (kr_ HO_4.out)); (case aS => exact (below_size (bl_ HB.out))); (case aL => have := LMc16.out; omega); intro v164 w20 ho hb hg hat; rw [← Ny163.out] at ho; replace HO_19 := Aside0.mk (Kd.R_over' (kr_ HO_19.out) (Kd.R_typed (kr_ HO_4.out)) (by decide) hg); replace HB := Aside0.mk (hb); have HO165 := Aside0.mk (ho); clear HO_4 ho hb hg hat))
          go_roundg k1
          case measure => have := HK1.out; omega
          case rel => exact ⟨(y163), (wrap64 (x21_1 + 1)), (fs_), H', ⟨by have := HK1.out; omega⟩, ⟨kr_ HO165.out⟩, ⟨kr_ HO_19.out⟩, ⟨bl_ HB.out⟩⟩
         ·rw [if_neg c16] at H
          exact absurd H (by simp)
        ·have H1 : (some (([] : List (S37)), false)) = some (r1, r2) := by rw [if_neg (show ¬ (some q162).isNone = true by simp)] at H; exact H
         clear H; have H := H1; clear H1
         try simp only [errW_none, errW_some]
         simp only [Option.some.injEq, Prod.mk.injEq] at H
         obtain ⟨rfl, rfl⟩ := H; have p153 : 0 ≤ (x21_1 : Int) := of_decide_eq_true as_; have q153 : x21_1 < (t150.length : Int) := of_decide_eq_true as_; obtain ⟨ad153, e153, hx153_0⟩ := Kd.at_string (Kd.R_reads' HO_19.out).2.2 x21_1 p153 q153
         cases e153
         replace p153 := eq_true p153; replace q153 := eq_true q153
         go_wp2_with (first | ((with_reducible refine gate_callee (f := 11) rfl ?_); refine gl_ (some 27) Tryd.func11 #[.string (rdOf ByteArray.empty t150 x21_1), .string (⟨#[45]⟩ : ByteArray)] rfl ?_; (with_reducible refine (strings_Cut.calls (rdOf ByteArray.empty t150 x21_1) (⟨#[45]⟩ : ByteArray) t154 t155 t156 _ A13.out (strings_SplitN.Glob.mv HGL.out (bl_ HB.out))).mono ?_); rintro e w21 ⟨rfl, hb⟩; refine ⟨_, rfl, ?_⟩; replace HO_4 := Aside0.mk (Kd.R_below (kr_ HO_4.out) hb); replace HO_19 := Aside0.mk (Kd.R_below (kr_ HO_19.out) hb); replace HB := Aside0.mk (below_step (bl_ HB.out) hb); (try clear hb); (try clear hb2); (try clear hk); (try clear hi)) | ((with_reducible refine gate_callee (f := 12) rfl ?_); refine gl_ (some 33) Tryd.func12 #[.string t154] rfl ?_; (with_reducible refine (strconv_Atoi.calls_none t154 t157 _ A14.out (strings_SplitN.Glob.mv HGL.out (bl_ HB.out))).mono ?_); rintro e w22 ⟨rfl, hb⟩; refine ⟨_, rfl, ?_⟩; replace HO_4 := Aside0.mk (Kd.R_below (kr_ HO_4.out) hb); replace HO_19 := Aside0.mk (Kd.R_below (kr_ HO_19.out) hb); replace HB := Aside0.mk (below_step (bl_ HB.out) hb); (try clear hb); (try clear hb2); (try clear hk); (try clear hi); (try simp only [errW_none, errW_some])) | ((with_reducible refine gate_callee (f := 12) rfl ?_); refine gl_ (some 38) Tryd.func12 #[.string t155] rfl ?_; (with_reducible refine (strconv_Atoi.calls_some t155 t159 q162 _ A15.out (strings_SplitN.Glob.mv HGL.out (bl_ HB.out))).mono ?_); rintro e w23 ⟨et_w23, ep_w23, rfl, hb⟩; refine ⟨_, rfl, ?_⟩; replace HO_4 := Aside0.mk (Kd.R_below (kr_ HO_4.out) hb); replace HO_19 := Aside0.mk (Kd.R_below (kr_ HO_19.out) hb); replace HB := Aside0.mk (below_step (bl_ HB.out) hb); (try clear hb); (try clear hb2); (try clear hk); (try clear hi); (try simp only [errW_none, errW_some])))
         go_ret2
         exact ⟨_, by first | rfl | (simp [errW_none, errW_some] <;> rfl) | (simp [*, errW_none, errW_some] <;> rfl), by first | exact Kd.R_nil _ _ _ _ _ | exact Kd.N_nil _ _ _ _ _ | exact Kd.V_nil _ _ _ _ _ | exact Kd.Q_nil _ _ _ _ _ | exact Kd.S_nil _ _ _ _ _, bl_ HB.out⟩
       ·have H1 : (some (([] : List (S37)), false)) = some (r1, r2) := by rw [if_neg (show ¬ (some q161).isNone = true by simp)] at H; exact H
        clear H; have H := H1; clear H1
        try simp only [errW_none, errW_some]
        simp only [Option.some.injEq, Prod.mk.injEq] at H
        obtain ⟨rfl, rfl⟩ := H; have p153 : 0 ≤ (x21_1 : Int) := of_decide_eq_true as_; have q153 : x21_1 < (t150.length : Int) := of_decide_eq_true as_; obtain ⟨ad153, e153, hx153_0⟩ := Kd.at_string (Kd.R_reads' HO_19.out).2.2 x21_1 p153 q153
        cases e153
        replace p153 := eq_true p153; replace q153 := eq_true q153
        go_wp2_with (first | ((with_reducible refine gate_callee (f := 11) rfl ?_); refine gl_ (some 27) Tryd.func11 #[.string (rdOf ByteArray.empty t150 x21_1), .string (⟨#[45]⟩ : ByteArray)] rfl ?_; (with_reducible refine (strings_Cut.calls (rdOf ByteArray.empty t150 x21_1) (⟨#[45]⟩ : ByteArray) t154 t155 t156 _ A13.out (strings_SplitN.Glob.mv HGL.out (bl_ HB.out))).mono ?_); rintro e w24 ⟨rfl, hb⟩; refine ⟨_, rfl, ?_⟩; replace HO_4 := Aside0.mk (Kd.R_below (kr_ HO_4.out) hb); replace HO_19 := Aside0.mk (Kd.R_below (kr_ HO_19.out) hb); replace HB := Aside0.mk (below_step (bl_ HB.out) hb); (try clear hb); (try clear hb2); (try clear hk); (try clear hi)) | ((with_reducible refine gate_callee (f := 12) rfl ?_); refine gl_ (some 33) Tryd.func12 #[.string t154] rfl ?_; (with_reducible refine (strconv_Atoi.calls_some t154 t157 q161 _ A14.out (strings_SplitN.Glob.mv HGL.out (bl_ HB.out))).mono ?_); rintro e w25 ⟨et_w25, ep_w25, rfl, hb⟩; refine ⟨_, rfl, ?_⟩; replace HO_4 := Aside0.mk (Kd.R_below (kr_ HO_4.out) hb); replace HO_19 := Aside0.mk (Kd.R_below (kr_ HO_19.out) hb); replace HB := Aside0.mk (below_step (bl_ HB.out) hb); (try clear hb); (try clear hb2); (try clear hk); (try clear hi); (try simp only [errW_none, errW_some])) | ((with_reducible refine gate_callee (f := 12) rfl ?_); refine gl_ (some 38) Tryd.func12 #[.string t155] rfl ?_; (with_reducible refine (strconv_Atoi.calls_any t155 t159 t160 _ A15.out (strings_SplitN.Glob.mv HGL.out (bl_ HB.out))).mono ?_); rintro e w26 ⟨E_w26, rfl, hb⟩; refine ⟨_, rfl, ?_⟩; replace HO_4 := Aside0.mk (Kd.R_below (kr_ HO_4.out) hb); replace HO_19 := Aside0.mk (Kd.R_below (kr_ HO_19.out) hb); replace HB := Aside0.mk (below_step (bl_ HB.out) hb); (try clear hb); (try clear hb2); (try clear hk); (try clear hi); (try simp only [errW_none, errW_some])))
        go_ret2
        exact ⟨_, by first | rfl | (simp [errW_none, errW_some] <;> rfl) | (simp [*, errW_none, errW_some] <;> rfl), by first | exact Kd.R_nil _ _ _ _ _ | exact Kd.N_nil _ _ _ _ _ | exact Kd.V_nil _ _ _ _ _ | exact Kd.Q_nil _ _ _ _ _ | exact Kd.S_nil _ _ _ _ _, bl_ HB.out⟩
      ·rw [if_neg c12] at H
       exact absurd H (by simp)
     ·rw [if_neg c11] at H
      exact absurd H (by simp)
    ·rw [if_neg c10] at H
     have c10b0 : decide (x21_1 < (t150.length : Int)) = false := decide_eq_false c10; clear c10; replace H := Option.bind_eq_some_iff.mp H; obtain ⟨t166, A270, H⟩ := H; have A27 := Aside0.mk A270; clear A270
     by_cases c28 : t166 = true
     ·subst c28
      rw [if_pos rfl] at H
      replace H := Option.bind_eq_some_iff.mp H; obtain ⟨t167, A290, H⟩ := H; have A29 := Aside0.mk A290; clear A290
      by_cases c30 : t167.toList = a0.toList
      ·rw [if_pos c30] at H
       have c30b0 : (t167.toList == a0.toList) = true := beq_iff_eq.mpr c30; have c30b1 : (t167.toList != a0.toList) = false := bne_eq_false_iff_eq.mpr c30; clear c30
       simp only [Option.some.injEq, Prod.mk.injEq] at H
       obtain ⟨rfl, rfl⟩ := H; obtain ⟨Ao31, co31, eo31⟩ := Kd.R_slice HO_4.out; subst eo31
       go_wp2_with (first | ((with_reducible refine gate_callee (f := 13) rfl ?_); refine gl_ (some 55) Tryd.func13 #[.slice Ao31 x4_1.length co31] rfl ?_; (with_reducible refine (impl_isListed.calls k1 _ _ x4_1 true _ ?side1 ?side2 A27.out).mono ?_); (case side1 => exact cc_ (Kd.R_reads' HO_4.out).2.2); (case side2 => exact (Kd.R_reads' HO_4.out).2.1); rintro e w32 ⟨rfl, hb⟩; refine ⟨_, rfl, ?_⟩; replace HO_4 := Aside0.mk (Kd.R_below (kr_ HO_4.out) hb); replace HO_19 := Aside0.mk (Kd.R_below (kr_ HO_19.out) hb); replace HB := Aside0.mk (below_step (bl_ HB.out) hb); (try clear hb); (try clear hb2); (try clear hk); (try clear hi)) | (go_at_call 14; (with_reducible refine (impl_diagonalsText.calls k1 _ _ x4_1 t167 _ ?side1 ?side2 A29.out).mono ?_); (case side1 => exact cc_ (Kd.R_reads' HO_4.out).2.2); (case side2 => exact (Kd.R_reads' HO_4.out).2.1); rintro e w33 ⟨rfl, hb⟩; replace HO_4 := Aside0.mk (Kd.R_below (kr_ HO_4.out) hb); replace HO_19 := Aside0.mk (Kd.R_below (kr_ HO_19.out) hb); replace HB := Aside0.mk (below_step (bl_ HB.out) hb); (try clear hb); (try clear hb2); (try clear hk); (try clear hi)))
       go_ret2
       exact ⟨_, by first | rfl | (simp [errW_none, errW_some] <;> rfl) | (simp [*, errW_none, errW_some] <;> rfl), by (with_reducible repeat (first | apply Kd.R_alloc | apply Kd.R_drewN | apply Kd.R_drew)); exact HO_4.out, bl_ HB.out⟩
      ·rw [if_neg c30] at H
       have c30b0 : (t167.toList == a0.toList) = false := beq_eq_false_iff_ne.mpr c30; have c30b1 : (t167.toList != a0.toList) = true := bne_iff_ne.mpr c30
       simp only [Option.some.injEq, Prod.mk.injEq] at H
       obtain ⟨rfl, rfl⟩ := H; obtain ⟨Ao34, co34, eo34⟩ := Kd.R_slice HO_4.out; subst eo34
       go_wp2_with (first | ((with_reducible refine gate_callee (f := 13) rfl ?_); refine gl_ (some 55) Tryd.func13 #[.slice Ao34 x4_1.length co34] rfl ?_; (with_reducible refine (impl_isListed.calls k1 _ _ x4_1 true _ ?side1 ?side2 A27.out).mono ?_); (case side1 => exact cc_ (Kd.R_reads' HO_4.out).2.2); (case side2 => exact (Kd.R_reads' HO_4.out).2.1); rintro e w35 ⟨rfl, hb⟩; refine ⟨_, rfl, ?_⟩; replace HO_4 := Aside0.mk (Kd.R_below (kr_ HO_4.out) hb); replace HO_19 := Aside0.mk (Kd.R_below (kr_ HO_19.out) hb); replace HB := Aside0.mk (below_step (bl_ HB.out) hb); (try clear hb); (try clear hb2); (try clear hk); (try clear hi)) | (go_at_call 14; (with_reducible refine (impl_diagonalsText.calls k1 _ _ x4_1 t167 _ ?side1 ?side2 A29.out).mono ?_); (case side1 => exact cc_ (Kd.R_reads' HO_4.out).2.2); (case side2 => exact (Kd.R_reads' HO_4.out).2.1); rintro e w36 ⟨rfl, hb⟩; replace HO_4 := Aside0.mk (Kd.R_below (kr_ HO_4.out) hb); replace HO_19 := Aside0.mk (Kd.R_below (kr_ HO_19.out) hb); replace HB := Aside0.mk (below_step (bl_ HB.out) hb); (try clear hb); (try clear hb2); (try clear hk); (try clear hi)))
       go_ret2
       exact ⟨_, by first | rfl | (simp [errW_none, errW_some] <;> rfl) | (simp [*, errW_none, errW_some] <;> rfl), by first | exact Kd.R_nil _ _ _ _ _ | exact Kd.N_nil _ _ _ _ _ | exact Kd.V_nil _ _ _ _ _ | exact Kd.Q_nil _ _ _ _ _ | exact Kd.S_nil _ _ _ _ _, bl_ HB.out⟩
     ·replace c28 := Bool.eq_false_iff.mpr c28
      subst c28; rw [if_neg (show ¬ (false = true) by decide)] at H
      simp only [Option.some.injEq, Prod.mk.injEq] at H
      obtain ⟨rfl, rfl⟩ := H; obtain ⟨Ao37, co37, eo37⟩ := Kd.R_slice HO_4.out; subst eo37
      go_wp2_with (first | ((with_reducible refine gate_callee (f := 13) rfl ?_); refine gl_ (some 55) Tryd.func13 #[.slice Ao37 x4_1.length co37] rfl ?_; (with_reducible refine (impl_isListed.calls k1 _ _ x4_1 false _ ?side1 ?side2 A27.out).mono ?_); (case side1 => exact cc_ (Kd.R_reads' HO_4.out).2.2); (case side2 => exact (Kd.R_reads' HO_4.out).2.1); rintro e w38 ⟨rfl, hb⟩; refine ⟨_, rfl, ?_⟩; replace HO_4 := Aside0.mk (Kd.R_below (kr_ HO_4.out) hb); replace HO_19 := Aside0.mk (Kd.R_below (kr_ HO_19.out) hb); replace HB := Aside0.mk (below_step (bl_ HB.out) hb); (try clear hb); (try clear hb2); (try clear hk); (try clear hi)))
      go_ret2
      exact ⟨_, by first | rfl | (simp [errW_none, errW_some] <;> rfl) | (simp [*, errW_none, errW_some] <;> rfl), by first | exact Kd.R_nil _ _ _ _ _ | exact Kd.N_nil _ _ _ _ _ | exact Kd.V_nil _ _ _ _ _ | exact Kd.Q_nil _ _ _ _ _ | exact Kd.S_nil _ _ _ _ _, bl_ HB.out⟩
end Go.Proofs.YtcfcnnnkpdhecaaDoor.PFnExactParseDiagonals
