-- Written for this claim by a program of this session (wip/tools/xprint.py over the kit's printer, wip/tools/shrink.py).
import Derived.Test.YtinnmloliknilabPFnExactOnesOfx0
import Derived.Test.YtinnmloliknilabPFnExactOnesOfx12
namespace Go.Proofs.Ytinnmloliknilab.PFnExactOnesOf
open Go.RowKit Go.Proofs.YtinnmloliknilabW.PrintWords Go.Proofs.YtinnmloliknilabW.PrintLast Go.Proofs.YtinnmloliknilabW.PrintMore
attribute [local go_sem] max2_int min2_int max_two min_two max_three min_three max_four min_four   -- for this text's walks alone
set_option linter.unusedVariables false
set_option linter.unusedSimpArgs false
def impl_OnesOf.d (k : Nat) (l0 : List Int) (x : S59) : Option Bool := (impl_entries.f k l0 x.f0).bind fun row => if 0 ≤ wrap64 (x.f1 - x.f0) then (if wrap64 (x.f1 - x.f0) < (row.length : Int) then some (rd row (wrap64 (x.f1 - x.f0)) != 1) else none) else none
def impl_OnesOf.keep (k : Nat) (l0 : List Int) : List S59 → Option (List S59)
 | [] => some []
 | x :: r => (impl_OnesOf.d k l0 x).bind fun b => (impl_OnesOf.keep k l0 r).bind fun q => some (if b = true then q else x :: q)
def impl_OnesOf.f (k : Nat) (l0 : List Int) : Option (List S59 × Bool) := (impl_IsQuiddity.f k l0).bind fun t => if t = true then ((impl_allDiagonals.f k (l0.length : Int)).bind fun L => if L.length ≤ 1000000 then ((impl_OnesOf.keep k l0 L).bind fun q => some (q, true)) else none) else some ([], false)
theorem impl_OnesOf.keep_some {k : Nat} {l0 : List Int} : ∀ {L q : List S59}, impl_OnesOf.keep k l0 L = some q → (∀ x ∈ L, impl_OnesOf.d k l0 x = some ((impl_OnesOf.d k l0 x).getD false)) ∧ q = L.filter fun x => !((impl_OnesOf.d k l0 x).getD false)
 | [], q, h => ⟨fun x hx => by simp at hx, by simpa [impl_OnesOf.keep] using h.symm⟩
 | x :: r, q, h => by
  unfold impl_OnesOf.keep at h
  obtain ⟨b, hb, h⟩ := Option.bind_eq_some_iff.1 h; obtain ⟨q2, hq, h⟩ := Option.bind_eq_some_iff.1 h; obtain rfl := Option.some.inj h; obtain ⟨h1, h2⟩ := impl_OnesOf.keep_some hq; refine ⟨fun y hy => ?_, ?_⟩
  ·rcases List.mem_cons.1 hy with rfl | hy
   ·rw [hb]; rfl
   ·exact h1 y hy
  ·subst h2
   cases b <;> simp [List.filter_cons, hb]
set_option maxHeartbeats 4000000 in
set_option maxRecDepth 100000 in
theorem impl_OnesOf.clo (k : Nat) (A0 : Option Addr) (c0 : Nat) (l0 : List Int) (g : Nat) (x : S59) (b : Bool) (w : World) (hg : w.heap[g]? = some (.cells #[.slice A0 l0.length c0] 22 (0, 0))) (hr0 : Kd.C (Kd.int .i64) w A0 l0.length l0) (hc0 : l0.length ≤ c0) (h : impl_OnesOf.d k l0 x = some b) :
  Calls Try.prog 61 #[.agg #[.int .i64 x.f0, .int .i64 x.f1], .pointer (some ⟨g, 0, none⟩)] w fun e w' => e = .returned (.bool b) ∧ Below w.heap.size w w' := by
 have hu := Try.underlying59; have hc := (blk_cell hg 0).trans (show #[Value.slice A0 l0.length c0][0]? = some (.slice A0 l0.length c0) from rfl)
 have HR0 := Aside0.mk hr0; have HC0 := Aside0.mk hc0; clear hg hr0 hc0
 unfold impl_OnesOf.d at h
 obtain ⟨row, he, h⟩ := Option.bind_eq_some_iff.1 h; obtain ⟨ji, hji⟩ : ∃ j_ : Int, wrap64 (x.f1 - x.f0) = j_ := ⟨_, rfl⟩; rw [hji] at h
 by_cases hp : 0 ≤ ji
 case neg => rw [if_neg hp] at h; cases h
 rw [if_pos hp] at h
 by_cases hq : ji < (row.length : Int)
 case neg => rw [if_neg hq] at h; cases h
 rw [if_pos hq] at h
 obtain rfl := Option.some.inj h; clear h; have HE := Aside0.mk he; clear he; have HP := Aside0.mk hp; have HQ := Aside0.mk hq; clear hp hq; clear h; have hjw : (IntKind.i64.wrap (x.f1 - x.f0)) = ji := (i64_w _).trans hji
 go_enter Try.func61, Try.ntmps61
 go_wp2_with ((with_reducible refine gate_dst (N := 2) rfl ?_); refine box_event ?hg (N := 2) ?hd (cs := #[.int .i64 x.f0, .int .i64 x.f1]) (t := 59) ?hr ?_; (case hd => rfl); (case hg => rfl); (case hr => first | (go_simp; done) | (go_simp; rfl)); intro gb hgb w9 hbox hb; have HB9 := Aside0.mk hb; have hcz0 : w9.cell? ⟨gb, 0, none⟩ = some (.int .i64 x.f0) := (blk_cell hbox 0).trans rfl; have hcz1 : w9.cell? ⟨gb, 1, none⟩ = some (.int .i64 x.f1) := (blk_cell hbox 1).trans rfl; have hd0 := (hb.cell (World.block_lt_of_cell? w _ hc)).trans hc; clear hgb hbox hb)
 refine start_ (n := 13) (S := fun w' => w'.cell? ⟨g, 0, none⟩ = some (.slice A0 l0.length c0) ∧ w'.cell? ⟨gb, 0, none⟩ = some (.int .i64 x.f0) ∧ w'.cell? ⟨gb, 1, none⟩ = some (.int .i64 x.f1)) (ds := [10]) #[false, false, false, false, false, false, false, false, false, false, false, false, false] (by kernel_rfl) rfl rfl ⟨hd0, hcz0, hcz1⟩ (fun hHeld => ?_)
 refine pure_ (i := 1) (N := some 5) (v := ?_) (a' := ?_) #[false, true, false, false, false, false, false, false, false, false, false, false, false] rfl rfl (by kernel_rfl) (fun _ _ _ h => h) (Or.inl ⟨by rfl, ?_⟩) ?_ ?_
 rotate_left
 ·intro w'
  go_simp
  with_reducible rfl
 rotate_left
 ·simp only [Act.put, List.setIfInBounds_toArray, List.set_cons_zero, List.set_cons_succ, i64_w, i32_w]
  rfl
 refine pure_ (i := 4) (N := some 8) (v := ?_) (a' := ?_) #[false, true, false, false, true, false, false, false, false, false, false, false, false] rfl rfl (by kernel_rfl) (fun _ _ _ h => h) (Or.inl ⟨by rfl, ?_⟩) ?_ ?_
 rotate_left
 ·intro w'
  go_simp
  with_reducible rfl
 rotate_left
 ·simp only [Act.put, List.setIfInBounds_toArray, List.set_cons_zero, List.set_cons_succ, i64_w, i32_w]
  rfl
 refine pure_ (i := 6) (N := some 10) (v := ?_) (a' := ?_) #[false, true, false, false, true, false, true, false, false, false, false, false, false] rfl rfl (by kernel_rfl) (fun _ _ _ h => h) (Or.inl ⟨by rfl, ?_⟩) ?_ ?_
 rotate_left
 ·intro w'
  go_simp
  with_reducible rfl
 rotate_left
 ·simp only [Act.put, List.setIfInBounds_toArray, List.set_cons_zero, List.set_cons_succ, i64_w, i32_w]
  rfl
 refine take_ (i := 0) (N := some 4) (v := ?_) (a' := ?_) #[true, true, false, false, true, false, true, false, false, false, false, false, false] rfl rfl (by kernel_rfl) (fun _ _ _ h => h) (Or.inl ⟨by rfl, ?_⟩) hHeld ?_ ?_
 rotate_left
 ·rintro w' ⟨s0, s1, s2⟩
  go_simp
  with_reducible rfl
 rotate_left
 ·simp only [Act.put, List.setIfInBounds_toArray, List.set_cons_zero, List.set_cons_succ, i64_w, i32_w]
  rfl
 refine take_ (i := 2) (N := some 6) (v := ?_) (a' := ?_) #[true, true, true, false, true, false, true, false, false, false, false, false, false] rfl rfl (by kernel_rfl) (fun _ _ _ h => h) (Or.inl ⟨by rfl, ?_⟩) hHeld ?_ ?_
 rotate_left
 ·rintro w' ⟨s0, s1, s2⟩
  go_simp
  with_reducible rfl
 rotate_left
 ·simp only [Act.put, List.setIfInBounds_toArray, List.set_cons_zero, List.set_cons_succ, i64_w, i32_w]
  rfl
 refine take_ (i := 5) (N := some 9) (v := ?_) (a' := ?_) #[true, true, true, false, true, true, true, false, false, false, false, false, false] rfl rfl (by kernel_rfl) (fun _ _ _ h => h) (Or.inl ⟨by rfl, ?_⟩) hHeld ?_ ?_
 rotate_left
 ·rintro w' ⟨s0, s1, s2⟩
  go_simp
  with_reducible rfl
 rotate_left
 ·simp only [Act.put, List.setIfInBounds_toArray, List.set_cons_zero, List.set_cons_succ, i64_w, i32_w]
  rfl
 refine take_ (i := 7) (N := some 11) (v := ?_) (a' := ?_) #[true, true, true, false, true, true, true, true, false, false, false, false, false] rfl rfl (by kernel_rfl) (fun _ _ _ h => h) (Or.inl ⟨by rfl, ?_⟩) hHeld ?_ ?_
 rotate_left
 ·rintro w' ⟨s0, s1, s2⟩
  go_simp
  with_reducible rfl
 rotate_left
 ·simp only [Act.put, List.setIfInBounds_toArray, List.set_cons_zero, List.set_cons_succ, i64_w, i32_w]
  rfl
 refine pure_ (i := 8) (N := some 12) (v := ?_) (a' := ?_) #[true, true, true, false, true, true, true, true, true, false, false, false, false] rfl rfl (by kernel_rfl) (fun _ _ _ h => h) (Or.inl ⟨by rfl, ?_⟩) ?_ ?_
 rotate_left
 ·intro w'
  go_simp
  with_reducible rfl
 rotate_left
 ·simp only [Act.put, List.setIfInBounds_toArray, List.set_cons_zero, List.set_cons_succ, i64_w, i32_w]
  rfl
 refine one_ (i := 3) (N := some 7) #[true, true, true, true, true, true, true, true, true, false, false, false, false] rfl rfl (by kernel_rfl) (by decide) (fun K hK => ?_)
 refine goes_ Try.func58 (by kernel_rfl) rfl #[.slice A0 l0.length c0, .int .i64 x.f0] (by rfl) rfl rfl (by (try simp only [List.map_toArray, List.map_cons, List.map_nil]); first | done | rfl) ?_
 with_reducible refine (impl_entries.calls k A0 c0 l0 x.f0 row _ ?s1 ?s2 HE.out).mono ?_
 case s1 => exact Kd.C_below HR0.out (below_drew1 HB9.out)
 case s2 => exact HC0.out
 rintro e w10 ⟨v0, rfl, ho, hb2⟩
 refine ⟨_, rfl, ?_⟩; have hb3 := below_step (below_drew1 HB9.out) hb2; have HB10 := Aside0.mk hb3; obtain ⟨Ao, co, eo⟩ := Kd.R_slice ho; subst eo; obtain ⟨ad, e1, hx⟩ := Kd.at_int (Kd.R_reads' ho).2.2 ji HP.out HQ.out
 cases e1
 have p1 := eq_true HP.out; have q1 := eq_true HQ.out; refine hK.out _ _ ⟨(hb2.cell (World.block_lt_of_cell? _ _ hHeld.1)).trans hHeld.1, (hb2.cell (World.block_lt_of_cell? _ _ hHeld.2.1)).trans hHeld.2.1, (hb2.cell (World.block_lt_of_cell? _ _ hHeld.2.2)).trans hHeld.2.2⟩ (fun hHeld => ?_)
 clear hK K; refine na_ (some 7) ?_; refine pure_ (i := 9) (N := some 13) (v := ?_) (a' := ?_) #[true, true, true, true, true, true, true, true, true, true, false, false, false] rfl rfl (by kernel_rfl) (fun _ _ _ h => h) (Or.inl ⟨by rfl, ?_⟩) ?_ ?_
 rotate_left
 ·intro w'
  go_simp
  with_reducible rfl
 rotate_left
 ·simp only [Act.put, List.setIfInBounds_toArray, List.set_cons_zero, List.set_cons_succ, i64_w, i32_w]
  rfl
 refine last_ (i := 10) (N := some 14) #[true, true, true, true, true, true, true, true, true, true, true, false, false] rfl rfl (by kernel_rfl) (by decide) (fun K hK => ?_)
 refine value_ (w1 := ?_) (v := ?_) (by rfl) rfl ?_ ?_
 rotate_left 2
 ·go_simp
  constructor
  ·rfl
  ·rfl
 refine hK.out _ _ ?_; clear hK K; refine na_ (some 14) ?_; refine pure_ (i := 11) (N := some 15) (v := ?_) (a' := ?_) #[true, true, true, true, true, true, true, true, true, true, true, true, false] rfl rfl (by kernel_rfl) (fun _ _ _ h => h) (Or.inl ⟨by rfl, ?_⟩) ?_ ?_
 rotate_left
 ·intro w'
  go_simp
  with_reducible rfl
 rotate_left
 ·simp only [Act.put, List.setIfInBounds_toArray, List.set_cons_zero, List.set_cons_succ, i64_w, i32_w]
  rfl
 refine pure_ (i := 12) (N := some 3) (v := ?_) (a' := ?_) #[true, true, true, true, true, true, true, true, true, true, true, true, true] rfl rfl (by kernel_rfl) (fun _ _ _ h => h) (Or.inl ⟨by rfl, ?_⟩) ?_ ?_
 rotate_left
 ·intro w'
  go_simp
  with_reducible rfl
 rotate_left
 ·simp only [Act.put, List.setIfInBounds_toArray, List.set_cons_zero, List.set_cons_succ, i64_w, i32_w]
  rfl
 refine done_ (by kernel_rfl) ?_
 try go_wp2
 go_ret
 exact ⟨by first | rfl | (simp [hji]; done), HB10.out⟩
def impl_OnesOf.b (k : Nat) (l0 : List Int) (x : S59) : Bool := (impl_OnesOf.d k l0 x).getD false
set_option maxHeartbeats 4000000 in
set_option maxRecDepth 100000 in
theorem impl_OnesOf.idx (k : Nat) (A0 : Option Addr) (c0 : Nat) (l0 : List Int) (g : Nat) (A1 : Option Addr) (c1 : Nat) (L : List S59) (w : World) (hg : w.heap[g]? = some (.cells #[.slice A0 l0.length c0] 22 (0, 0))) (hr0 : Kd.C (Kd.int .i64) w A0 l0.length l0) (hc0 : l0.length ≤ c0)
  (hr1 : Kd.C k59 w A1 L.length L) (hc1 : L.length ≤ c1) (hl : L.length ≤ 1000000) (hall : ∀ x ∈ L, impl_OnesOf.d k l0 x = some (impl_OnesOf.b k l0 x)) :
  Calls Try.prog 77 #[.slice A1 L.length c1, .func (.func 61) #[] #[.pointer (some ⟨g, 0, none⟩)]] w fun e w' => (∃ i : Int, e = .returned (.int .i64 i) ∧ ((i = -1 ∧ ∀ x ∈ L, impl_OnesOf.b k l0 x = false) ∨ (0 ≤ i ∧ i < (L.length : Int) ∧ (∀ x ∈ L.take i.toNat, impl_OnesOf.b k l0 x = false) ∧ impl_OnesOf.b k l0 (rd_T59 L i) = true))) ∧ Below w.heap.size w w' := by
 have hu := Try.underlying59; have HR0 := Aside0.mk hr0; have HC0 := Aside0.mk hc0; have HR1 := Aside0.mk hr1; have HC1 := Aside0.mk hc1; have HG := Aside0.mk hg; have HA := Aside0.mk hall; clear hr0 hc0 hg hr1 hc1 hall; have HB := Aside0.mk (Below.refl w.heap.size w)
 have HL : ∀ x : Int, 0 ≤ x → x < (L.length : Int) → L.take (x.toNat + 1) = L.take x.toNat ++ [rd_T59 L x] ∧ rd_T59 L x ∈ L := by
  intro x hx0 hx
  have h1 : L[x.toNat]? = some (rd_T59 L x) := by
   have : x.toNat < L.length := by omega
   simp [rd_T59, this]
  exact ⟨by rw [List.take_add_one, h1]; rfl, List.mem_of_getElem? h1⟩
 go_enter Try.func77, Try.ntmps77
 go_wp2
 go_loopg [8] (L.length + 1) (fun kq v8 w' => ∃ (x : Int), v8 = .int .i64 x ∧ Aside0 (0 ≤ x ∧ (kq : Int) + x = L.length + 1) ∧ Aside0 (∀ y ∈ L.take x.toNat, impl_OnesOf.b k l0 y = false) ∧ Aside0 (Below w.heap.size w w'))
 case atStart => exact ⟨0, rfl, ⟨by omega⟩, ⟨by simp⟩, HB⟩
 case round =>
  clear HB; obtain ⟨x, rfl, HK, HN, HB⟩ := hrel
  by_cases c4 : x < (L.length : Int)
  ·have c4b0 : decide (x < (L.length : Int)) = true := decide_eq_true c4
   have p1 : 0 ≤ x := HK.out.1; obtain ⟨ad, e1, hx0, hx1⟩ := at_T59 HR1.out x p1 c4
   cases e1
   replace hx0 := (HB.out.cell (World.block_lt_of_cell? w _ hx0)).trans hx0; replace hx1 := (HB.out.cell (World.block_lt_of_cell? w _ hx1)).trans hx1; obtain ⟨h3, hm⟩ := HL x p1 c4; have hd := HA.out _ hm; have h4 : wrap64 (x + 1) = x + 1 := by simp only [wrap64]; omega
   replace p1 := eq_true p1; have q1 := eq_true c4
   cases hP : impl_OnesOf.b k l0 (rd_T59 L x) with
   | true =>
    rw [hP] at hd
    have HD := Aside0.mk hd; clear hd
    go_wp2_with (go_at_call 61; refine (impl_OnesOf.clo k A0 c0 l0 g (rd_T59 L x) true _ (blk_below HG.out HB.out) (Kd.C_below HR0.out HB.out) HC0.out HD.out).mono ?_; rintro e w10 ⟨rfl, hb2⟩; have HB10 := Aside0.mk (below_step HB.out hb2))
    go_ret
    exact ⟨⟨_, rfl, .inr ⟨HK.out.1, c4, HN.out, hP⟩⟩, HB10.out⟩
   | false =>
    rw [hP] at hd
    have HD := Aside0.mk hd; clear hd
    go_wp2_with (go_at_call 61; refine (impl_OnesOf.clo k A0 c0 l0 g (rd_T59 L x) false _ (blk_below HG.out HB.out) (Kd.C_below HR0.out HB.out) HC0.out HD.out).mono ?_; rintro e w10 ⟨rfl, hb2⟩; have HB10 := Aside0.mk (below_step HB.out hb2))
    go_roundg (gk - 1)
    case measure => have := HK.out; omega
    case rel => exact ⟨x + 1, by first | rfl | (simp only [i64_w, h4]; done) | (simp [h4]; done), ⟨by have := HK.out; omega⟩, ⟨by rw [show (x + 1).toNat = x.toNat + 1 by have := HK.out; omega, h3]; intro y hy; rcases List.mem_append.1 hy with hy | hy; exact HN.out y hy; rw [List.mem_singleton.1 hy]; exact hP⟩, HB10⟩
  ·have c4b0 : decide (x < (L.length : Int)) = false := decide_eq_false c4
   go_wp2
   go_ret
   have h2 := HN.out; rw [List.take_of_length_le (by omega)] at h2
   exact ⟨⟨-1, rfl, .inl ⟨rfl, h2⟩⟩, HB.out⟩
theorem impl_OnesOf.lists {L L1 : List S59} {p : S59 → Bool} {i j : Nat} {y : S59} (hij : i < j) (hj : j < L.length) (h1 : L1.length = L.length) (h2 : L1.take i = (L.take j).filter p) (h3 : L1.drop j = L.drop j) (hy : L[j]? = some y) :
  (p y = false → L1.take i = (L.take (j + 1)).filter p ∧ L1.drop (j + 1) = L.drop (j + 1)) ∧ (p y = true → (L1.set i y).take (i + 1) = (L.take (j + 1)).filter p ∧ (L1.set i y).drop (j + 1) = L.drop (j + 1)) := by
 have e1 : L.take (j + 1) = L.take j ++ [y] := by rw [List.take_add_one, hy]; rfl
 have e2 : L1.drop (j + 1) = L.drop (j + 1) := by rw [← List.drop_drop, ← List.drop_drop, h3]
 refine ⟨fun hp => ⟨by rw [e1, List.filter_append, ← h2]; simp [hp], e2⟩, fun hp => ⟨?_, ?_⟩⟩
 ·rw [e1, List.filter_append, ← h2, List.take_add_one, List.take_set_of_le (Nat.le_refl i), List.getElem?_set_self (by omega)]
  simp [hp]
 ·rw [List.drop_set_of_lt (by omega), e2]
theorem impl_OnesOf.bel {w0 : World} {g : Nat} (hg : w0.heap.size ≤ g) (vs : List Value) (o : Nat) (w : World) (h : Below w0.heap.size w0 w) : Below w0.heap.size w0 (w.setCells g o vs) := by
 obtain ⟨h1, h2, h3, h4⟩ := setCells_same g vs o w; exact ⟨h1.trans h.os, h2.trans h.tape, h3.trans h.output, by rw [h4]; exact h.size, fun k hk => (setCells_far vs o k (by omega)).trans (h.block k hk)⟩
theorem impl_OnesOf.has {e : TypeId} {w : World} {base : Nat} {ok : Nat → Prop} {g n cap : Nat} {xs : List S59} (h : Kd.R k59 e w base ok (.slice (some ⟨g, 0, none⟩) n cap) xs) (j : Nat) (hj : j < cap * 2) : (w.cell? ⟨g, j, none⟩).isSome = true ∧ w.frozen? ⟨g, j, none⟩ = false := by
 obtain ⟨h0, inner, hown, hr⟩ := h
 rcases hown.2 with ⟨e1, _⟩ | ⟨g', cap', cur, e1, hb, hh, hnc, hcm, hcs, htk⟩
 ·cases e1
 ·injection e1 with ea en ec
  injection ea with ea
  injection ea with ea
  subst ea; subst ec; have hz : (k59).sz = 2 := rfl; rw [hz] at hcs
  exact ⟨by rw [blk_cell hh j, Array.getElem?_eq_getElem (by omega)]; rfl, blk_frozen hh j⟩
theorem impl_OnesOf.clrun (w : World) (g o n c : Nat) (hn : 0 < n) (hc : ∀ j, j < n * 2 → (w.cell? ⟨g, o + j, none⟩).isSome = true) (hf : ∀ j, j < n * 2 → w.frozen? ⟨g, o + j, none⟩ = false) :
  ∀ ty, (Builtin.clear_ #[38] ty #[.slice (some ⟨g, o, none⟩) n c]).run Try.prog w = .ok (.tuple #[]) (w.setCells g o (Builtin.zeroCells #[Value.int .i64 0, Value.int .i64 0] n).toList) := by
 intro ty; have hlen : (Builtin.zeroCells #[Value.int .i64 0, Value.int .i64 0] n).toList.length = n * 2 := by rw [Array.length_toList, size_zeroCells]; rfl
 have h1 : ∀ v ∈ (Builtin.zeroCells #[Value.int .i64 0, Value.int .i64 0] n).toList, v.oneCell' = true := by
  intro v hv
  simp only [Builtin.zeroCells, Array.toList_map, List.mem_map] at hv
  obtain ⟨i, _, rfl⟩ := hv
  rcases Nat.mod_two_eq_zero_or_one i with h | h
  ·rw [show (#[Value.int .i64 0, Value.int .i64 0] : Array Value).size = 2 from rfl, h]; rfl
  ·rw [show (#[Value.int .i64 0, Value.int .i64 0] : Array Value).size = 2 from rfl, h]; rfl
 have hst := run_storeCells_cells (P := Try.prog) g o (Builtin.zeroCells #[Value.int .i64 0, Value.int .i64 0] n).toList 0 w (by rw [hlen]; simpa using hc) (by rw [hlen]; simpa using hf) h1
 simp only [Nat.add_zero] at hst
 obtain ⟨m, rfl⟩ : ∃ m, n = m + 1 := ⟨n - 1, by omega⟩
 have hcells : (Value.agg #[Value.int .i64 0, Value.int .i64 0]).cells = #[Value.int .i64 0, Value.int .i64 0] := by first | rfl | kernel_rfl | simp [Value.cells]
 simp [Builtin.clear_, run_underlying Try.underlying38, Try.zeroValue59, hcells, hst]
theorem impl_OnesOf.clr {e : TypeId} {w : World} {base : Nat} {ok : Nat → Prop} {g i cap : Nat} {xs : List S59} (h : Kd.R k59 e w base ok (.slice (some ⟨g, 0, none⟩) i cap) xs) (vs : List Value) (o : Nat) (ho : i * 2 ≤ o) (hfit : o + vs.length ≤ cap * 2) :
  Kd.R k59 e (w.setCells g o vs) base ok (.slice (some ⟨g, 0, none⟩) i cap) xs := by
 obtain ⟨h0, inner, hown, hr⟩ := h; refine ⟨h0, inner, ?_, hr.imp_ (fun p c hp => by rw [k59_openM hp]; exact k59_mkM _ _ _ _)⟩
 obtain ⟨hlen, h2⟩ := hown; refine ⟨hlen, ?_⟩
 rcases h2 with ⟨e1, _⟩ | ⟨g', cap', cur, e1, hb, hh, hnc, hcm, hcs, htk⟩
 ·cases e1
 ·injection e1 with ea en ec
  injection ea with ea
  injection ea with ea
  subst ea; subst ec; subst en; have hz : (k59).sz = 2 := rfl; rw [hz] at hcs htk
  obtain ⟨cur', hh', hs', hl'⟩ := setCells_row vs o w cur hh (by omega)
  refine .inr ⟨g, cap, cur', rfl, hb, hh', hnc, hcm, by rw [hs', hcs, hz], ?_⟩
  have h7 := Array.length_toList (xs := cur); have h9 : xs.length * 2 ≤ cap * 2 := Nat.mul_le_mul_right 2 hnc; rw [hz, hl', List.append_assoc, List.take_append_of_le_length (by rw [List.length_take]; omega), List.take_take, Nat.min_eq_left (by omega), htk]
set_option maxHeartbeats 4000000 in
set_option maxRecDepth 100000 in
theorem impl_OnesOf.del (k : Nat) (A0 : Option Addr) (c0 : Nat) (l0 : List Int) (g : Nat) (L : List S59) (v : Value) (w0 w : World) (hB : Below w0.heap.size w0 w) (hg : w0.heap[g]? = some (.cells #[.slice A0 l0.length c0] 22 (0, 0))) (hr0 : Kd.C (Kd.int .i64) w0 A0 l0.length l0) (hc0 : l0.length ≤ c0)
  (ho : Kd.R k59 59 w w0.heap.size (fun _ => True) v L) (hl : L.length ≤ 1000000) (hall : ∀ x ∈ L, impl_OnesOf.d k l0 x = some (impl_OnesOf.b k l0 x)) :
  Calls Try.prog 59 #[v, .func (.func 61) #[] #[.pointer (some ⟨g, 0, none⟩)]] w fun e w' => ∃ v' : Value, e = .returned v' ∧ Kd.R k59 59 w' w0.heap.size (fun _ => True) v' (L.filter fun x => !(impl_OnesOf.b k l0 x)) ∧ Below w0.heap.size w0 w' := by
 have hu := Try.underlying59; have HR0 := Aside0.mk hr0; have HC0 := Aside0.mk hc0; have HG := Aside0.mk hg; have HA := Aside0.mk hall; have HL := Aside0.mk hl; have HO := Aside0.mk ho; have HB := Aside0.mk hB; clear hr0 hc0 hg hall hl hB ho
 by_cases hno : ∀ x ∈ L, impl_OnesOf.b k l0 x = false
 ·obtain ⟨A1, c1, rfl⟩ := Kd.R_slice HO.out
  have HR1 := Aside0.mk (Kd.R_reads' HO.out); have HN := Aside0.mk hno; clear hno
  go_enter Try.func59, Try.ntmps59
  go_wp2_with (go_at_call 77; (with_reducible refine (impl_OnesOf.idx k A0 c0 l0 g A1 c1 L _ ?s1 ?s2 HC0.out ?s3 HR1.out.2.1 HL.out HA.out).mono ?_); (case s1 => exact blk_below HG.out HB.out); (case s2 => exact Kd.C_below HR0.out HB.out); (case s3 => exact HR1.out.2.2); rintro e w10 ⟨⟨i, rfl, hi⟩, hb2⟩; obtain rfl : i = -1 := (by rcases hi with hi | ⟨h1, h2, h3, h4⟩; exact hi.1; exfalso; rw [HN.out _ (by have h5 : L[i.toNat]? = some (rd_T59 L i) := (by have : i.toNat < L.length := (by omega); simp [rd_T59, this]); exact List.mem_of_getElem? h5)] at h4; cases h4); have HB10 := Aside0.mk hb2; clear hi hb2)
  go_ret
  exact ⟨_, rfl, by rw [List.filter_eq_self.2 (fun x hx => by rw [HN.out x hx]; rfl)]; exact Kd.R_below HO.out HB10.out, below_step HB.out HB10.out⟩
 ·have hpos : 0 < L.length := by
   rcases Nat.eq_zero_or_pos L.length with h | h
   ·exfalso; apply hno; intro x hx; rw [List.length_eq_zero_iff.1 h] at hx; cases hx
   ·exact h
  obtain ⟨g1, c1, rfl, hg1, hg2, cells, hcells⟩ := Kd.R_form HO.out hpos; have HN := Aside0.mk hno; have HR1 := Aside0.mk (Kd.R_reads' HO.out); clear hno hcells cells hg2
  go_enter Try.func59, Try.ntmps59
  have HJ : ∀ i : Int, 0 ≤ i → (i == -1) = false := fun i hi => beq_eq_false_iff_ne.2 (by omega)
  go_wp2_with (go_at_call 77; (with_reducible refine (impl_OnesOf.idx k A0 c0 l0 g (some ⟨g1, 0, none⟩) c1 L _ ?s1 ?s2 HC0.out ?s3 HR1.out.2.1 HL.out HA.out).mono ?_); (case s1 => exact blk_below HG.out HB.out); (case s2 => exact Kd.C_below HR0.out HB.out); (case s3 => exact HR1.out.2.2); rintro e w10 ⟨⟨i, rfl, hi⟩, hb2⟩; obtain ⟨hi0, hi1, hi2, hi3⟩ : 0 ≤ i ∧ i < (L.length : Int) ∧ (∀ x ∈ L.take i.toNat, impl_OnesOf.b k l0 x = false) ∧ impl_OnesOf.b k l0 (rd_T59 L i) = true := (by rcases hi with hi | hi; exact absurd hi.2 HN.out; exact hi); have hne := HJ i hi0; have HB10 := Aside0.mk (below_step HB.out hb2); have HO10 := Aside0.mk (Kd.R_below HO.out hb2); have HI0 := Aside0.mk hi0; have HI1 := Aside0.mk hi1; have HI2 := Aside0.mk hi2; have HI3 := Aside0.mk hi3; clear hi hb2 HB HO hi0 hi1 hi2 hi3)
  have h44 : wrap64 (i + 1) = i + 1 := by have := HI0.out; have := HI1.out; have := HL.out; simp only [wrap64]; omega
  go_loopg [5, 6] (L.length + 1) (fun kq v5 v6 w' => ∃ (x5 x6 : Int) (L1 : List S59), v5 = .int .i64 x5 ∧ v6 = .int .i64 x6 ∧ Aside0 ((0 ≤ x5 ∧ x5 < x6) ∧ x6 ≤ L.length ∧ (L.length : Int) + 1 ≤ (kq : Int) + x6) ∧ Aside0 (L1.length = L.length ∧ L1.take x5.toNat = (L.take x6.toNat).filter (fun x => !(impl_OnesOf.b k l0 x)) ∧ L1.drop x6.toNat = L.drop x6.toNat) ∧ Aside0 (Kd.R k59 59 w' w0.heap.size (fun _ => True) (.slice (some ⟨g1, 0, none⟩) L.length c1) L1) ∧ Aside0 (Below w0.heap.size w0 w'))
  case atStart =>
   have HS : L.take i.toNat = (L.take (i + 1).toNat).filter (fun x => !(impl_OnesOf.b k l0 x)) := by
    have e1 : (i + 1).toNat = i.toNat + 1 := by have := HI0.out; omega
    have h5 : L[i.toNat]? = some (rd_T59 L i) := by
     have : i.toNat < L.length := by have := HI0.out; have := HI1.out; omega
     simp [rd_T59, this]
    rw [e1, List.take_add_one, h5, List.filter_append, List.filter_eq_self.2 (fun x hx => by rw [HI2.out x hx]; rfl)]
    simp [HI3.out]
   exact ⟨i, i + 1, L, rfl, by first | rfl | (simp only [i64_w, h44]; done) | (simp [h44]; done), ⟨by have := HI0.out; have := HI1.out; omega⟩, ⟨rfl, HS, rfl⟩, ⟨kr_ HO10.out⟩, ⟨bl_ HB10.out⟩⟩
  case round =>
   clear HO10 HB10 h44; obtain ⟨x5, x6, L1, rfl, rfl, HK, HN1, HO, HB⟩ := hrel
   by_cases c4 : x6 < (L.length : Int)
   ·have c4b0 : decide (x6 < (L.length : Int)) = true := decide_eq_true c4
    have p1 : 0 ≤ x6 := by have := HK.out; omega
    have p5 : 0 ≤ x5 := HK.out.1.1; have q5 : x5 < (L.length : Int) := by have := HK.out; omega
    have HX5 := Aside0.mk q5; obtain ⟨ad, e1, hx0, hx1⟩ := at_T59 (Kd.R_reads' HO.out).2.2 x6 p1 (by rw [HN1.out.1]; exact c4)
    cases e1
    have hy : L[x6.toNat]? = some (rd_T59 L x6) := by
     have : x6.toNat < L.length := by omega
     simp [rd_T59, this]
    have hrd : rd_T59 L1 x6 = rd_T59 L x6 := by
     have h6 : L1[x6.toNat]? = L[x6.toNat]? := by
      have h7 := congrArg (fun q : List S59 => q[0]?) HN1.out.2.2
      simpa using h7
     unfold rd_T59
     rw [List.getD_eq_getElem?_getD, List.getD_eq_getElem?_getD, h6]
    rw [hrd] at hx0 hx1
    rw [Addr.add_lit, Nat.zero_add] at hx0
    simp only [Addr.add_lit, Nat.zero_add] at hx1
    obtain ⟨y, hyy⟩ : ∃ y, rd_T59 L x6 = y := ⟨_, rfl⟩; rw [hyy] at hx0 hx1 hy
    have hd := HA.out y (List.mem_of_getElem? hy); have HLS := Aside0.mk (impl_OnesOf.lists (i := x5.toNat) (j := x6.toNat) (by have := HK.out; omega) (by omega) HN1.out.1 HN1.out.2.1 HN1.out.2.2 hy)
    have h4 : wrap64 (x6 + 1) = x6 + 1 := by have := HL.out; simp only [wrap64]; omega
    have h5 : wrap64 (x5 + 1) = x5 + 1 := by have := HL.out; simp only [wrap64]; omega
    have e6 : (x6 + 1).toNat = x6.toNat + 1 := by omega
    have e5 : (x5 + 1).toNat = x5.toNat + 1 := by omega
    replace p1 := eq_true p1; have q1 := eq_true c4; replace p5 := eq_true p5; replace q5 := eq_true q5; clear hy hyy hrd
    cases hP : impl_OnesOf.b k l0 y with
    | true =>
     rw [hP] at hd
     have HD := Aside0.mk hd; clear hd
     go_wp2_with (first | ((with_reducible refine gate_dst (N := 7) rfl ?_); refine box_event ?hg (N := 7) ?hd (cs := #[.int .i64 0, .int .i64 0]) (t := 59) ?hr ?_; (case hd => rfl); (case hg => rfl); (case hr => first | (go_simp; done) | (go_simp; rfl)); intro gv hgv w9 hbox hb; have HO9 := Aside0.mk (Kd.R_below (Kd.R_elderB (kr_ HO.out) gv (Nat.le_of_eq hgv.symm)) hb); have GE := Aside0.mk ((by rw [hgv]; exact (below_size (bl_ HB.out)) : w0.heap.size ≤ gv)); have BK := Aside0.mk hbox; have HB9 := Aside0.mk (below_step (bl_ HB.out) hb); clear hb hbox hgv; have hcz0 : w9.cell? ⟨gv, 0, none⟩ = some (.int .i64 0) := (blk_cell BK.out 0).trans rfl; have hcz1 : w9.cell? ⟨gv, 1, none⟩ = some (.int .i64 0) := (blk_cell BK.out 1).trans rfl; have hfz0 := blk_frozen BK.out 0; have hfz1 := blk_frozen BK.out 1) | (go_at_call 61; (with_reducible refine (impl_OnesOf.clo k A0 c0 l0 g y true _ ?s1 ?s2 HC0.out HD.out).mono ?_); (case s1 => exact blk_below HG.out (bs_ HB9.out GE.out)); (case s2 => exact Kd.C_below HR0.out (bs_ HB9.out GE.out)); rintro e w11 ⟨rfl, hb2⟩; have HO11 := Aside0.mk (Kd.R_below (by (with_reducible repeat (first | apply Kd.R_alloc | apply Kd.R_drewN | apply Kd.R_drew)); exact (Kd.R_mono (Kd.R_far (p := ⟨gv, 1, none⟩) (Kd.R_far (p := ⟨gv, 0, none⟩) (Kd.R_mono HO9.out (fun k_ hk => (⟨hk, hk.2⟩ : _ ∧ k_ ≠ gv))) (fun _ hk => hk.2) (.int .i64 y.f0)) (fun _ hk => hk.2) (.int .i64 y.f1)) (ok' := fun _ => True) (fun _ _ => trivial))) hb2); have BK11 := Aside0.mk (blk_below (g := gv) (o := .cells #[.int .i64 y.f0, .int .i64 y.f1] 59 (0, 0)) (by (with_reducible repeat (first | refine blk_drewN ?_ _ | refine blk_drew ?_ | refine blk_alloc ?_ _)); refine blk_put (cs := #[.int .i64 y.f0, .int .i64 0]) ?_ 1 _ rfl; (with_reducible repeat (first | refine blk_drewN ?_ _ | refine blk_drew ?_ | refine blk_alloc ?_ _)); refine blk_put (cs := #[.int .i64 0, .int .i64 0]) ?_ 0 _ rfl; (with_reducible repeat (first | refine blk_drewN ?_ _ | refine blk_drew ?_ | refine blk_alloc ?_ _)); exact BK.out) hb2); have HB11 := Aside0.mk (below_step (bs_ HB9.out GE.out) hb2); clear hb2; have hdz0 : w11.cell? ⟨gv, 0, none⟩ = some (.int .i64 y.f0) := (blk_cell BK11.out 0).trans rfl; have hdz1 : w11.cell? ⟨gv, 1, none⟩ = some (.int .i64 y.f1) := (blk_cell BK11.out 1).trans rfl))
     go_roundg (gk - 1)
     case measure => have := HK.out; omega
     case rel => exact ⟨x5, x6 + 1, L1, rfl, by first | rfl | (simp only [i64_w, h4]; done) | (simp [h4]; done), ⟨by have := HK.out; omega⟩, ⟨HN1.out.1, by rw [e6]; exact (HLS.out.1 (by rw [hP]; rfl)).1, by rw [e6]; exact (HLS.out.1 (by rw [hP]; rfl)).2⟩, ⟨kr_ HO11.out⟩, ⟨bl_ HB11.out⟩⟩
    | false =>
     rw [hP] at hd
     have HD := Aside0.mk hd; clear hd
     go_wp2_with (first | ((with_reducible refine gate_dst (N := 7) rfl ?_); refine box_event ?hg (N := 7) ?hd (cs := #[.int .i64 0, .int .i64 0]) (t := 59) ?hr ?_; (case hd => rfl); (case hg => rfl); (case hr => first | (go_simp; done) | (go_simp; rfl)); intro gv hgv w9 hbox hb; have HO9 := Aside0.mk (Kd.R_below (Kd.R_elderB (kr_ HO.out) gv (Nat.le_of_eq hgv.symm)) hb); have GE := Aside0.mk ((by rw [hgv]; exact (below_size (bl_ HB.out)) : w0.heap.size ≤ gv)); have BK := Aside0.mk hbox; have HB9 := Aside0.mk (below_step (bl_ HB.out) hb); clear hb hbox hgv; have hcz0 : w9.cell? ⟨gv, 0, none⟩ = some (.int .i64 0) := (blk_cell BK.out 0).trans rfl; have hcz1 : w9.cell? ⟨gv, 1, none⟩ = some (.int .i64 0) := (blk_cell BK.out 1).trans rfl; have hfz0 := blk_frozen BK.out 0; have hfz1 := blk_frozen BK.out 1) | (go_at_call 61; (with_reducible refine (impl_OnesOf.clo k A0 c0 l0 g y false _ ?s1 ?s2 HC0.out HD.out).mono ?_); (case s1 => exact blk_below HG.out (bs_ HB9.out GE.out)); (case s2 => exact Kd.C_below HR0.out (bs_ HB9.out GE.out)); rintro e w11 ⟨rfl, hb2⟩; have HO11 := Aside0.mk (Kd.R_below (by (with_reducible repeat (first | apply Kd.R_alloc | apply Kd.R_drewN | apply Kd.R_drew)); exact (Kd.R_mono (Kd.R_far (p := ⟨gv, 1, none⟩) (Kd.R_far (p := ⟨gv, 0, none⟩) (Kd.R_mono HO9.out (fun k_ hk => (⟨hk, hk.2⟩ : _ ∧ k_ ≠ gv))) (fun _ hk => hk.2) (.int .i64 y.f0)) (fun _ hk => hk.2) (.int .i64 y.f1)) (ok' := fun _ => True) (fun _ _ => trivial))) hb2); have BK11 := Aside0.mk (blk_below (g := gv) (o := .cells #[.int .i64 y.f0, .int .i64 y.f1] 59 (0, 0)) (by (with_reducible repeat (first | refine blk_drewN ?_ _ | refine blk_drew ?_ | refine blk_alloc ?_ _)); refine blk_put (cs := #[.int .i64 y.f0, .int .i64 0]) ?_ 1 _ rfl; (with_reducible repeat (first | refine blk_drewN ?_ _ | refine blk_drew ?_ | refine blk_alloc ?_ _)); refine blk_put (cs := #[.int .i64 0, .int .i64 0]) ?_ 0 _ rfl; (with_reducible repeat (first | refine blk_drewN ?_ _ | refine blk_drew ?_ | refine blk_alloc ?_ _)); exact BK.out) hb2); have HB11 := Aside0.mk (below_step (bs_ HB9.out GE.out) hb2); clear hb2; have hdz0 : w11.cell? ⟨gv, 0, none⟩ = some (.int .i64 y.f0) := (blk_cell BK11.out 0).trans rfl; have hdz1 : w11.cell? ⟨gv, 1, none⟩ = some (.int .i64 y.f1) := (blk_cell BK11.out 1).trans rfl) | ((with_reducible refine gate_store (t := 59) (p := 33) rfl ?_); obtain ⟨ce, hce1, _, hce2, hce3⟩ := Kd.R_elem HO11.out z59 x5 HK.out.1.1 HX5.out; refine Kd.R_store k59 (w0 := w0) (g := g1) (n := L.length) (cap := c1) (o' := x5.toNat * 2) w0.heap.size rfl rfl 59 (.tmp 33) (.tmp 32) rfl 59 x5 0 L1 y (.agg #[.int .i64 y.f0, .int .i64 y.f1]) [.int .i64 y.f0, .int .i64 y.f1] ce (fun _ => True) (fun _ => False) ?aA ?aF ?aX ?aU ?aT ?a1 HO11.out HK.out.1.1 HX5.out hce1 hce2 ?aj ?aM (fun _ hk => hk.elim) HB11.out ?_; (case aA => rfl); (case aF => rfl); (case aX => rfl); (case aU => first | rfl | kernel_rfl | simp [Value.cells]); (case aT => kernel_rfl); (case a1 => intro q_ hq_; rcases List.mem_cons.1 hq_ with hq_ | hq_; rw [hq_]; rfl; rw [List.mem_singleton.1 hq_]; rfl); (case aj => exact Nat.le_refl 2); (case aM => rw [List.take_zero, List.nil_append, List.drop_of_length_le (by rw [hce1]; exact Nat.le_refl 2), List.append_nil]; exact k59_mkM _ _ _ _); intro w12 ho2 hb3 hg3; have HO12 := Aside0.mk ho2; have HB12 := Aside0.mk hb3; clear ho2 hb3 hg3 hce1 hce2 hce3))
     go_roundg (gk - 1)
     case measure => have := HK.out; omega
     case rel => exact ⟨x5 + 1, x6 + 1, L1.set x5.toNat y, by first | rfl | (simp only [i64_w, h5]; done) | (simp [h5]; done), by first | rfl | (simp only [i64_w, h4]; done) | (simp [h4]; done), ⟨by have := HK.out; omega⟩, ⟨by rw [List.length_set]; exact HN1.out.1, by rw [e6, e5]; exact (HLS.out.2 (by rw [hP]; rfl)).1, by rw [e6]; exact (HLS.out.2 (by rw [hP]; rfl)).2⟩, ⟨kr_ HO12.out⟩, ⟨bl_ HB12.out⟩⟩
   ·have c4b0 : decide (x6 < (L.length : Int)) = false := decide_eq_false c4
    have HX : x6 = (L.length : Int) := by have := HK.out; omega
    obtain ⟨m, rfl⟩ : ∃ m : Nat, x5 = (m : Int) := ⟨x5.toNat, by have := HK.out; omega⟩
    have hm : m < L.length := by have := HK.out; omega
    have hcap : L.length ≤ c1 := HR1.out.2.1; have p5 : ((0 : Int) ≤ (m : Int)) = True := eq_true (by omega)
    have q5 : ((m : Int) ≤ (L.length : Int)) = True := eq_true (by omega)
    have q6 : ((m : Int) ≤ (c1 : Int)) = True := eq_true (by omega)
    have q7 : ((L.length : Int) ≤ (c1 : Int)) = True := eq_true (by omega)
    have q8 : (m ≤ L.length) = True := eq_true (by omega)
    have q9 : (m ≤ c1) = True := eq_true (by omega)
    have q10 : (L.length ≤ c1) = True := eq_true hcap; have HLQ := Aside0.mk (show L1.length = L.length from HN1.out.1)
    have hcl := impl_OnesOf.clrun wr g1 (m * 2) (L.length - m) (c1 - m) (by omega) (fun j hj => (impl_OnesOf.has HO.out (m * 2 + j) (by omega)).1) (fun j hj => (impl_OnesOf.has HO.out (m * 2 + j) (by omega)).2)
    go_wp2
    go_ret
    have hz : (Builtin.zeroCells #[Value.int .i64 0, Value.int .i64 0] (L.length - m)).toList.length = (L.length - m) * 2 := by rw [Array.length_toList, size_zeroCells]; rfl
    have hL : L1.take m = L.filter fun x => !(impl_OnesOf.b k l0 x) := by
     have h7 := HN1.out.2.1; rw [HX, Int.toNat_natCast, Int.toNat_natCast, List.take_of_length_le (Nat.le_refl L.length)] at h7
     exact h7
    refine ⟨_, rfl, ?_, impl_OnesOf.bel hg1 _ _ _ (by first | exact HB.out | (repeat (first | exact HB.out | apply below_drew1 | apply pw_below_drewN)))⟩
    rw [← hL]; exact impl_OnesOf.clr (by (with_reducible repeat (first | apply Kd.R_alloc | apply Kd.R_drewN | apply Kd.R_drew)); exact Kd.R_take HO.out (by have := HLQ.out; omega)) _ _ (Nat.le_refl _) (by rw [hz]; omega)
set_option maxHeartbeats 4000000 in
set_option maxRecDepth 100000 in
theorem impl_OnesOf.calls (k : Nat) (A0 : Option Addr) (c0 : Nat) (l0 : List Int) (r1 : List S59) (r2 : Bool) (w : World) (hr0 : Kd.C (Kd.int .i64) w A0 l0.length l0) (hc0 : l0.length ≤ c0) (h : impl_OnesOf.f k l0 = some (r1, r2)) :
  Calls Try.prog 28 #[.slice A0 l0.length c0] w fun e w' => ∃ v0_ : Value, e = .returned (.tuple #[v0_, .bool r2]) ∧ Kd.R k59 59 w' w.heap.size (fun _ => True) v0_ r1 ∧ Below w.heap.size w w' := by
 unfold impl_OnesOf.f at h
 obtain ⟨t, ht, h2⟩ := Option.bind_eq_some_iff.1 h; clear h; have HR0 := Aside0.mk hr0; have HC0 := Aside0.mk hc0; have HT := Aside0.mk ht; clear hr0 hc0 ht
 cases t with
 | false =>
  rw [if_neg (by decide)] at h2
  simp only [Option.some.injEq, Prod.mk.injEq] at h2
  obtain ⟨rfl, rfl⟩ := h2
  go_enter Try.func28, Try.ntmps28
  go_wp2_with (first | ((with_reducible refine gate_dst (N := 1) rfl ?_); refine box_event ?hg (N := 1) ?hd (cs := #[.slice A0 l0.length c0]) (t := 22) ?hr ?_; (case hd => rfl); (case hg => rfl); (case hr => first | (go_simp; done) | (go_simp; rfl)); intro gb1 hgb w9 hbox hb; have HX1 := Aside0.mk hbox; have HB1 := Aside0.mk hb; have hcz1 : w9.cell? ⟨gb1, 0, none⟩ = some (.slice A0 l0.length c0) := (blk_cell hbox 0).trans rfl; clear hgb hbox hb) | (go_at_call 56; (with_reducible refine (impl_IsQuiddity.calls k A0 c0 l0 false _ ?s1 ?s2 HT.out).mono ?_); (case s1 => exact Kd.C_below HR0.out HB1.out); (case s2 => exact HC0.out); rintro e w10 ⟨rfl, hb2⟩; have HB2 := Aside0.mk (below_step HB1.out hb2); have HX2 := Aside0.mk (blk_below HX1.out hb2); have hcz2 : w10.cell? ⟨gb1, 0, none⟩ = some (.slice A0 l0.length c0) := (blk_cell HX2.out 0).trans rfl; clear hb2))
  go_ret2
  exact ⟨_, rfl, Kd.R_nil _ _ _ _ _, HB2.out⟩
 | true =>
  rw [if_pos rfl] at h2
  obtain ⟨L, hL, h3⟩ := Option.bind_eq_some_iff.1 h2; clear h2
  by_cases hl : L.length ≤ 1000000
  case neg => rw [if_neg hl] at h3; cases h3
  rw [if_pos hl] at h3
  obtain ⟨q, hq, h4⟩ := Option.bind_eq_some_iff.1 h3; clear h3
  simp only [Option.some.injEq, Prod.mk.injEq] at h4
  obtain ⟨rfl, rfl⟩ := h4; obtain ⟨ha, hf⟩ := impl_OnesOf.keep_some hq; have HA := Aside0.mk (show ∀ x ∈ L, impl_OnesOf.d k l0 x = some (impl_OnesOf.b k l0 x) from ha)
  have HF := Aside0.mk (show q = L.filter fun x => !(impl_OnesOf.b k l0 x) from hf)
  have HLd := Aside0.mk hL; have HLl := Aside0.mk hl; clear ha hf hL hl hq
  go_enter Try.func28, Try.ntmps28
  go_wp2_with (first | ((with_reducible refine gate_dst (N := 1) rfl ?_); refine box_event ?hg (N := 1) ?hd (cs := #[.slice A0 l0.length c0]) (t := 22) ?hr ?_; (case hd => rfl); (case hg => rfl); (case hr => first | (go_simp; done) | (go_simp; rfl)); intro gb1 hgb w9 hbox hb; have HX1 := Aside0.mk hbox; have HB1 := Aside0.mk hb; have hcz1 : w9.cell? ⟨gb1, 0, none⟩ = some (.slice A0 l0.length c0) := (blk_cell hbox 0).trans rfl; clear hgb hbox hb) | (go_at_call 56; (with_reducible refine (impl_IsQuiddity.calls k A0 c0 l0 true _ ?s1 ?s2 HT.out).mono ?_); (case s1 => exact Kd.C_below HR0.out HB1.out); (case s2 => exact HC0.out); rintro e w10 ⟨rfl, hb2⟩; have HB2 := Aside0.mk (below_step HB1.out hb2); have HX2 := Aside0.mk (blk_below HX1.out hb2); have hcz2 : w10.cell? ⟨gb1, 0, none⟩ = some (.slice A0 l0.length c0) := (blk_cell HX2.out 0).trans rfl; clear hb2) | (go_at_call 60; (with_reducible refine (impl_allDiagonals.calls k (l0.length : Int) L _ HLd.out).mono ?_); rintro e w11 ⟨v0, rfl, ho, hb3⟩; have HO := Aside0.mk ho; have HB3 := Aside0.mk hb3; clear ho hb3) | (go_at_call 59; (with_reducible refine (impl_OnesOf.del k A0 c0 l0 gb1 L v0 w10 _ ?s1 ?s2 ?s3 HC0.out ?s4 HLl.out HA.out).mono ?_); (case s1 => exact HB3.out); (case s2 => exact HX2.out); (case s3 => exact Kd.C_below HR0.out HB2.out); (case s4 => exact HO.out); rintro e w12 ⟨v1, rfl, ho2, hb4⟩; have HO2 := Aside0.mk (Kd.R_lower ho2 (below_size HB2.out)); have HB4 := Aside0.mk (below_step HB2.out hb4); clear ho2 hb4))
  go_ret2
  exact ⟨_, rfl, by rw [HF.out]; exact HO2.out, HB4.out⟩
end Go.Proofs.Ytinnmloliknilab.PFnExactOnesOf
