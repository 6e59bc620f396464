-- Written for this claim by a program of this session (wip/tools/xprint.py over the kit's printer).
import Derived.Test.YtmpmmhmnjdkgcabRows
import Derived.Test.YtmpmmhmnjdkgcabPFnExactTrianglesBesidex12
import Derived.Test.YtmpmmhmnjdkgcabPureFnExactTrianglesBeside
import Derived.Test.YtmpmmhmnjdkgcabVFnExactTrianglesBeside
import Derived.WalkKit
import Derived.ProofKit
import Derived.OpenShut
import Derived.ShutString
import Derived.ChangeOld
import Derived.Below
import Derived.SizedLaws
import Derived.Lib.SmallJoins
import Derived.Carry
namespace Go.Proofs.Ytmpmmhmnjdkgcab.fnExactTrianglesBeside
open Go.ChangeShapes Go.WideShapes Go.ChangeAt Go.RowKit Go.Joins
open Go.ChangeMaps (open_string shut_string)
open Go.Proofs.YtmpmmhmnjdkgcabW.PrintWords Go.Proofs.Ytmpmmhmnjdkgcab.PFnExactTrianglesBeside
set_option linter.unusedVariables false
theorem own : ownKnob Try.prog.godebug = none := by kernel_rfl
theorem laidOut : laidOutB Try.prog = true := by kernel_rfl
set_option maxRecDepth 100000 in
theorem el0 {H : Type} {enc : TypeId × Value → H} {W : World} {base : Nat} {sp : Nat → Bool} {held : Bool} (m : Nat) (cs : List Value) (y : DataW H × List MemPlace) (h : DataW.trod enc Try.prog W base sp held m 56 cs = some y) :
    ∃ z : S56, k56.K W z cs ∧ ((Lit.int .i64 z.f0).wf = true ∧ (Lit.int .i64 z.f1).wf = true) := by
  obtain ⟨y0, y1, mm, hx, hl, g0, g1⟩ := Go.ChangeShapes.trod_struct2 Try.underlying56 h
  have hl2 : cs.length = 2 := hl.trans (by kernel_rfl)
  obtain ⟨c0, c1, rfl⟩ := Kit.list2 hl2
  obtain ⟨a0, e0, _, wa0⟩ := DataW.trod_int (cs := [c0]) Try.underlying3 g0
  obtain ⟨a1, e1, _, wa1⟩ := DataW.trod_int (cs := [c1]) Try.underlying3 g1
  obtain rfl : c0 = .int .i64 a0 := by simpa using e0
  obtain rfl : c1 = .int .i64 a1 := by simpa using e1
  exact ⟨⟨a0, a1⟩, k56_mk _ _, wa0, wa1⟩
set_option maxRecDepth 100000 in
theorem lifted (os : Os) (started : os.Started) (H : Type) (enc : TypeId × Value → H) :
    ReturnsInHanded {} Try.checked os 11 .any (Rows.fnExactTrianglesBesideSpec.pre6 enc Try.prog Try.f11 Rows.fnExactTrianglesBesideRow.domain false) (Rows.fnExactTrianglesBesideSpec.post enc Try.prog Try.f11 false true false false) := by
  refine returnsInHanded_of_change_sized (C := Try.checked) own started (by kernel_rfl) Try.func11
    (ChangeSpec.witness6 (enc := enc) (C := Try.checked) false ⟨#[], #[.int .i64 0, .slice none 0 0], []⟩ 8 (by kernel_rfl) (by kernel_rfl) (by kernel_rfl) (by kernel_rfl)) ?_
  intro W base args ds gs before hval0 hW hcnd hsz0 _
  have hsz : (DataW.weightsEach Try.prog (Try.f11.params.toList ++ Rows.fnExactTrianglesBesideSpec.plain.varTypes Try.prog) (ds ++ gs)).all (· ≤ reachBytes) = true := hsz0
  have hval : ∀ (j : Nat) t v, Try.f11.params[j]? = some t → args[j]? = some v → Value.okWide Try.prog W .any base t v := hval0
  have hW' := hW
  obtain ⟨p, q, hA0, hV, rfl, hfz, hnd⟩ := hW
  have hA : DataW.TrodAll enc Try.prog W 0 (fun _ => true) true Try.f11.params.toList args.toList ds p := hA0
  rw [Try.params11] at hA hval hsz
  obtain ⟨v0, vs0, d0, ds0, p0, q0, hargs, rfl, rfl, h0, r0⟩ := trodAll_cons hA
  obtain ⟨v1, vs1, d1, ds1, p1, q1, rfl, rfl, rfl, h1, r1⟩ := trodAll_cons r0
  obtain ⟨rfl, rfl, rfl⟩ := trodAll_nil r1
  obtain rfl : args = #[v0, v1] := by cases args; simp_all
  obtain ⟨rfl, rfl⟩ := trodVars_none hV
  obtain ⟨a0, rfl, rfl, rfl, w0⟩ := open_int Try.underlying3 (hval 0 3 v0 rfl rfl) h0
  have k1 := h1
  have lt1 : ∀ x ∈ p1, x.block < W.heap.size := by obtain ⟨m, hm⟩ := k1; exact DataW.trod_lt m _ _ _ hm
  obtain ⟨a1, len1, cap1, rfl⟩ := okWide_slice Try.underlying32 (hval 1 32 v1 rfl rfl)
  obtain ⟨l1, rfl, hr1, hc1, w1⟩ := Kit.open_kd k56 Try.underlying32 (by kernel_rfl) el0 h1
  have b1 : l1.length ≤ 9223372036854775807 := hr1.2.1
  clear hA0 hval0 hsz0 hsz
  obtain ⟨k, hp⟩ := Pure.FnExactTrianglesBeside a0 l1 w0 b1 w1
  refine (PFnExactTrianglesBeside.laws_FnExactTrianglesBeside.calls k a0 _ _ l1 true W hr1 hc1 hp).mono ?_
  rintro e W' ⟨rfl, bel0⟩
  have bel : Below W.heap.size W W' := bel0
  exact ⟨_, rfl, _, _, _, [], _, [], hW', trodAll_mk1 (shut_bool Try.underlying4 _), (trodAll_cons_mk (shut_int Try.underlying3 w0) (trodAll_cons_mk (Below.trod laidOut (by kernel_rfl) (of_decide_eq_true (by kernel_rfl)) k1 bel lt1) trodAll_mk0)), rfl, bel.frame _, fun h => by cases h⟩
theorem over : Rows.fnExactTrianglesBesideRow.holds Try.pinned (OpenSpec.ofChange Rows.fnExactTrianglesBesideSpec) :=
  OpenClaim.holds_of_wide 11 Try.f11 rfl rfl rfl rfl rfl rfl rfl ⟨rfl, rfl, rfl, rfl, rfl⟩ rfl rfl rfl rfl rfl (by kernel_rfl) Try.func11 (by kernel_rfl)
    (of_decide_eq_true (by kernel_rfl)) (by unfold Func.isWrapper; first | (rw [if_pos (by decide +kernel)]; kernel_rfl) | (rw [if_neg (by decide +kernel)]; exact ⟨rfl, rfl⟩))
    (fun os started H enc _ => lifted os started H enc)
theorem proved : Rows.FnExactTrianglesBesideSaid := over
#print axioms proved
end Go.Proofs.Ytmpmmhmnjdkgcab.fnExactTrianglesBeside
namespace Go.Proofs.Ytmpmmhmnjdkgcab
/-- The row, under a short name, for the claim. -/
theorem fnExactTrianglesBeside_holds : Rows.FnExactTrianglesBesideSaid := fnExactTrianglesBeside.proved
end Go.Proofs.Ytmpmmhmnjdkgcab
