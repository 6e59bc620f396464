/- Opening a law's arguments as kinds, and the call of a constant function value that lies in a slot. No statement is proved here. -/
import Derived.Lib.SmallJoins
import Derived.Deep.Slices
import Derived.Deep.Fields
import Derived.ChangeSame
import Derived.ChangeArms
import Derived.Laws.CopyOwn
import Derived.Lib.Hide
import Derived.Deep.RegionLaw
import Derived.Deep.RegionWith
import Derived.Lib.SliceRun
import Derived.Test.YtmpmmhmnjdkgcabWWords
import Derived.Test.YtmpmmhmnjdkgcabWLast
import Derived.Test.YtmpmmhmnjdkgcabWMore
set_option linter.unusedVariables false
namespace Go.Proofs.YtmpmmhmnjdkgcabW.PrintWords
open Go.RowKit Go.Proofs.YtmpmmhmnjdkgcabW.PrintLast
section
variable {P : Program} {ops : Array Oper} {rest : List Oper} {o : Oper} {a : Act} {Q : Exit → Act → World → Prop} {W : World}
/-- The operation is a call of what lies in this slot. -/
theorem gate_calleeT {x : Operand} {as : Array Operand} {ts : Array TypeId} (_ho : o.op = .call { callee := .value x, args := as, argTypes := ts }) (h : wpList P ops Q (o :: rest) a W) : wpList P ops Q (o :: rest) a W := h
/-- goesL_ where the function lies in a slot. -/
theorem goesT_ {rest : List Oper} {oi : Oper} {a : Act} {w : World} (N : Option Tmp) (hd : oi.dst = N) (hg : oi.guard = none) (x : Operand) {f : FuncId} (hx : a.eval x = .func (.func f) #[] #[]) {fn : Func} {as : Array Operand} {ts : Array TypeId}
    (hop : oi.op = .call { callee := .value x, args := as, argTypes := ts }) (hf : P.funcs[f]? = some fn) (hname : (fn.name == "runtime.NumGoroutine") = false) (hb : fn.body.isSome = true) (args : Array Value) (_h0 : (0 : Nat) = 0)
    (hargs : as.map a.eval = args)
    (h : Calls P f args w fun e w' => ∃ v, e = .returned v ∧ wpList P ops Q rest (a.put N v) w') : wpList P ops Q (oi :: rest) a w := by
  refine wpList_plain hg fun K hK => ?_
  have he := enters_ hf hname hb args w
  have hrun : (execOp a.eval oi).run P w = .ok (.enter f args) w := by
    unfold execOp
    simp [hop, resolve, Deferred.ofValue, invoke, hx, hargs, he]
  unfold Oper.wp
  rw [hrun, Oper.upon_enter]
  refine h.mono fun e w'' hh => ?_
  obtain ⟨v, rfl, hk⟩ := hh
  subst hd
  exact hK _ _ hk
/-- goes_ where the function lies in a slot. -/
theorem goesV_ {oi : Oper} {N : Option Tmp} {a : Act} {w : World} {K : Act → World → Prop} {f : FuncId} {fn : Func} {as : Array Operand} {ts : Array TypeId} (x : Operand) (hx : a.eval x = .func (.func f) #[] #[]) (hf : P.funcs[f]? = some fn) (hname : (fn.name == "runtime.NumGoroutine") = false) (hb : fn.body.isSome = true) (args : Array Value)
    (hw : Region.wanted oi (yielded ops a.tmps) = true) (hN : oi.dst = N) (hop : oi.op = .call { callee := .value x, args := as, argTypes := ts }) (hargs : as.map a.eval = args)
    (h : Calls P f args w fun e w' => ∃ v, e = .returned v ∧ K (a.put N v) w') : if Region.wanted oi (yielded ops a.tmps) = true then Oper.wp P oi a w K Q else K (a.put N undef) w := by
  refine call_ f args hw hN ?_ h
  have he := enters_ hf hname hb args w
  unfold execOp
  simp [hop, resolve, Deferred.ofValue, invoke, hx, hargs, he]
end
end Go.Proofs.YtmpmmhmnjdkgcabW.PrintWords
namespace Go.Proofs.Ytmpmmhmnjdkgcab.Kit
open Go.RowKit Go.ChangeShapes Go.WideShapes Go.Deep Go.Joins Go.Proofs.YtmpmmhmnjdkgcabW.PrintWords
section
variable {H : Type} {enc : TypeId × Value → H} {P : Program} {w : World} {base : Nat} {spare : Nat → Bool} {held : Bool}
theorem list2 {α : Type} {l : List α} (h : l.length = 2) : ∃ a b, l = [a, b] := by
  match l, h with
  | [a, b], _ => exact ⟨a, b, rfl⟩
/-- An element that is a struct of two one-cell fields. -/
theorem el_struct2 {t : TypeId} {f0 f1 : Field} {m : Nat} {cs : List Value} {y : DataW H × List MemPlace} (hs : P.underlying t = some (.struct #[f0, f1])) (hone : oneCellFields P #[f0, f1] = true) (hC : P.cellsOf t = 2)
    (h : DataW.trod enc P w base spare held m t cs = some y) :
    ∃ (v0 v1 : Value) (y0 y1 : DataW H × List MemPlace) (n : Nat), cs = [v0, v1] ∧ DataW.trod enc P w base spare held n f0.type [v0] = some y0 ∧ DataW.trod enc P w base spare held n f1.type [v1] = some y1 := by
  obtain ⟨y0, y1, n, hx, hl, h0, h1⟩ := trod_struct2 hs h
  obtain ⟨c0, c1, rfl⟩ := list2 (hl.trans hC)
  obtain ⟨o0, k0⟩ := hone_of hone 0 f0 rfl
  obtain ⟨o1, k1⟩ := hone_of hone 1 f1 rfl
  exact ⟨c0, c1, y0, y1, n, rfl, by simpa [o0, k0] using h0, by simpa [o1, k1] using h1⟩
/-- An element that is a whole number. -/
theorem el_int {e : TypeId} {k : IntKind} (he : P.underlying e = some (.int k)) (m : Nat) (cs : List Value) (y : DataW H × List MemPlace) (h : DataW.trod enc P w base spare held m e cs = some y) :
    ∃ z : Int, (Kd.int k).K w z cs ∧ (Lit.int k z).wf = true := by
  obtain ⟨n, rfl, _, hw⟩ := DataW.trod_int he h
  exact ⟨n, rfl, hw⟩
theorem choose_list {α : Type} (n : Nat) (R : Nat → α → Prop) (h : ∀ i, i < n → ∃ x, R i x) : ∃ l : List α, l.length = n ∧ ∀ j x, l[j]? = some x → R j x := by
  induction n with
  | zero => exact ⟨[], rfl, fun j x hj => by simp at hj⟩
  | succ n ih =>
    obtain ⟨l, hl, hr⟩ := ih (fun i hi => h i (by omega))
    obtain ⟨x, hx⟩ := h n (by omega)
    refine ⟨l ++ [x], by simp [hl], fun j y hj => ?_⟩
    by_cases hlt : j < n
    · rw [List.getElem?_append_left (by omega)] at hj
      exact hr j y hj
    · rw [List.getElem?_append_right (by omega)] at hj
      have h0 : j - l.length = 0 := by
        rcases Nat.eq_zero_or_pos (j - l.length) with h | h
        · exact h
        · rw [List.getElem?_eq_none (by simp; omega)] at hj; cases hj
      rw [h0] at hj
      simp at hj
      subst hj
      obtain rfl : j = n := by omega
      exact hx
/-- A slice, cell by cell, as a list of what its elements are. -/
theorem open_cells {α : Type} (d : Kd α) {Q : α → Prop} {t e : TypeId} {m : Nat} {cs : List Value} {y : DataW H × List MemPlace} (ht : P.underlying t = some (.slice e)) (hz : P.cellsOf e = d.sz)
    (hel : ∀ (m : Nat) (cs : List Value) (y : DataW H × List MemPlace), DataW.trod enc P w base spare held m e cs = some y → ∃ z : α, d.K w z cs ∧ Q z)
    (h : DataW.trod enc P w base spare held m t cs = some y) :
    ∃ (A : Option Addr) (c : Nat) (l : List α), cs = [.slice A l.length c] ∧ d.C w A l.length l ∧ l.length ≤ c ∧ l.length ≤ 9223372036854775807 ∧ ∀ z ∈ l, Q z := by
  rcases open_slice ht h with ⟨rfl, _⟩ | ⟨a, len, cap, mm, n, D, Pl, rfl, _, hl, hm, hmm, _, hi⟩
  · exact ⟨none, 0, [], rfl, ⟨rfl, by simp, fun hp => by simp at hp⟩, by simp, by simp, by simp⟩
  · have hmx : maxLen = 9223372036854775807 := rfl
    obtain ⟨l, hll, hlr⟩ := choose_list len (fun i z => ∃ cs', w.cells? base (a.add (i * P.cellsOf e)) (P.cellsOf e) = some cs' ∧ d.K w z cs' ∧ Q z) (fun i hlt => by
      obtain ⟨cs', hc, ht'⟩ := hi i (by rw [hmm]; split <;> omega)
      obtain ⟨z, hk, hq⟩ := hel _ _ _ ht'
      exact ⟨z, cs', hc, hk, hq⟩)
    subst hll
    refine ⟨some a, cap, l, rfl, ⟨rfl, by omega, fun _ => ⟨a, rfl, fun j z hj => ?_⟩⟩, hl, by omega, fun z hz' => ?_⟩
    · obtain ⟨cs', hc, hk, _⟩ := hlr j z hj
      obtain ⟨_, hcl, hat⟩ := World.cells?_some hc
      refine ⟨cs', by rw [hcl, hz], hk, fun i u hu => ?_⟩
      have hil : i < cs'.length := (List.getElem?_eq_some_iff.1 hu).1
      rw [← hz, ← Go.Deep.add_add, hat i (by omega)]
      exact hu
    · obtain ⟨j, hj, rfl⟩ := List.mem_iff_getElem.1 hz'
      obtain ⟨_, _, _, hq⟩ := hlr j l[j] (List.getElem?_eq_getElem hj)
      exact hq
/-- An argument that is a slice. -/
theorem open_kd {α : Type} (d : Kd α) {Q : α → Prop} {t e : TypeId} {A : Option Addr} {len cap : Nat} {D : DataW H} {p : List MemPlace} (ht : P.underlying t = some (.slice e)) (hz : P.cellsOf e = d.sz)
    (hel : ∀ (m : Nat) (cs : List Value) (y : DataW H × List MemPlace), DataW.trod enc P w base spare held m e cs = some y → ∃ z : α, d.K w z cs ∧ Q z)
    (h : DataW.Trod enc P w base spare held t (.slice A len cap) D p) :
    ∃ l : List α, len = l.length ∧ d.C w A l.length l ∧ l.length ≤ cap ∧ ∀ z ∈ l, Q z := by
  obtain ⟨m, hf⟩ := h
  obtain ⟨A', c, l, hcs, hC, hlc, _, hQ⟩ := open_cells d ht hz hel hf
  simp [Value.cells] at hcs
  obtain ⟨rfl, rfl, rfl⟩ := hcs
  exact ⟨l, rfl, hC, hlc, hQ⟩
/-- An element that is a slice. -/
theorem el_row {α : Type} (d : Kd α) {Q : α → Prop} {t e : TypeId} (ht : P.underlying t = some (.slice e)) (hz : P.cellsOf e = d.sz)
    (hel : ∀ (m : Nat) (cs : List Value) (y : DataW H × List MemPlace), DataW.trod enc P w base spare held m e cs = some y → ∃ z : α, d.K w z cs ∧ Q z)
    (m : Nat) (cs : List Value) (y : DataW H × List MemPlace) (h : DataW.trod enc P w base spare held m t cs = some y) :
    ∃ l : List α, (Kd.slice e d).K w l cs ∧ (l.length ≤ 9223372036854775807 ∧ ∀ z ∈ l, Q z) := by
  obtain ⟨A, c, l, rfl, hC, hlc, hb, hQ⟩ := open_cells d ht hz hel h
  exact ⟨l, ⟨A, c, rfl, hlc, hC⟩, hb, hQ⟩
end
end Go.Proofs.Ytmpmmhmnjdkgcab.Kit
