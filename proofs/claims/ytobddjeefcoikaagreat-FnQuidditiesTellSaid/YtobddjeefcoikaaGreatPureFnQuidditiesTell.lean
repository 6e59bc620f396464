/- The plain statement of FnQuidditiesTell, over numbers and lists: the program's answer is the reference's. -/
import Derived.Test.YtobddjeefcoikaaGreatPFnQuidditiesTellx
import Derived.Test.YtobddjeefcoikaaGreatPureFnQuidditiesTellB1
import Derived.Test.YtobddjeefcoikaaGreatPureFnQuidditiesTellB2
import Derived.Test.YtobddjeefcoikaaGreatPureFnQuidditiesTellB3
import Derived.Test.YtobddjeefcoikaaGreatPureFnQuidditiesTellB4
import Derived.Test.YtobddjeefcoikaaGreatPureFnQuidditiesTellB5
import Derived.Test.YtobddjeefcoikaaGreatPureFnQuidditiesTellB6
import Derived.Test.YtobddjeefcoikaaGreatPureFnQuidditiesTellB7
import Derived.Test.YtobddjeefcoikaaGreatPureFnQuidditiesTellB8
import Derived.Test.YtobddjeefcoikaaGreatPureFnQuidditiesTellB9
import Derived.Test.YtobddjeefcoikaaGreatPureFnQuidditiesTellB10
import Derived.Test.YtobddjeefcoikaaGreatPureFnQuidditiesTellB11
import Derived.Test.YtobddjeefcoikaaGreatPureFnQuidditiesTellB12
import Derived.Test.YtobddjeefcoikaaGreatPureFnQuidditiesTellB13
import Derived.Test.YtobddjeefcoikaaGreatPureFnQuidditiesTellB14
set_option linter.unusedVariables false
set_option linter.unusedSimpArgs false
namespace Go.Proofs.YtobddjeefcoikaaGreat.Pure
open Go.RowKit Go.Proofs.YtobddjeefcoikaaGreat.PFnQuidditiesTell Go.Proofs.YtobddjeefcoikaaGreatW.PrintWords Go.Proofs.YtobddjeefcoikaaGreatW.PrintLast

theorem all_split {α : Type} {p : α → Bool} {l : List α} {a b : Nat} (h1 : ((l.drop a).take b).all p = true) (h2 : (l.drop (a + b)).all p = true) : (l.drop a).all p = true := by
  rw [← List.take_append_drop b (l.drop a), List.all_append, h1, List.drop_drop, h2]
  rfl
theorem all_done {α : Type} {p : α → Bool} {l : List α} {a : Nat} (h : l.length ≤ a) : (l.drop a).all p = true := by
  rw [List.drop_of_length_le h]
  rfl
theorem en_len : (en 3).length = 1 ∧ (en 4).length = 2 ∧ (en 5).length = 5 ∧ (en 6).length = 14 ∧ (en 7).length = 42 ∧ (en 8).length = 132 ∧ (en 9).length = 429 := by decide +kernel
theorem all3 : ((en 3).drop 0).all (chk 3000 3) = true := all_split look3_0 (all_done (by rw [en_len.1]; decide))
theorem all4 : ((en 4).drop 0).all (chk 3000 4) = true := all_split look4_0 (all_done (by rw [en_len.2.1]; decide))
theorem all5 : ((en 5).drop 0).all (chk 3000 5) = true := all_split look5_0 (all_done (by rw [en_len.2.2.1]; decide))
theorem all6 : ((en 6).drop 0).all (chk 3000 6) = true := all_split look6_0 (all_done (by rw [en_len.2.2.2.1]; decide))
theorem all7 : ((en 7).drop 0).all (chk 3000 7) = true := all_split look7_0 (all_done (by rw [en_len.2.2.2.2.1]; decide))
theorem all8 : ((en 8).drop 0).all (chk 3000 8) = true := all_split look8_0 (all_split look8_22 (all_split look8_44 (all_split look8_66 (all_split look8_88 (all_split look8_110 (all_done (by rw [en_len.2.2.2.2.2.1]; decide)))))))
theorem all9 : ((en 9).drop 0).all (chk 3000 9) = true := all_split look9_0 (all_split look9_22 (all_split look9_44 (all_split look9_66 (all_split look9_88 (all_split look9_110 (all_split look9_132 (all_split look9_154 (all_split look9_176 (all_split look9_198 (all_split look9_220 (all_split look9_242 (all_split look9_264 (all_split look9_286 (all_split look9_308 (all_split look9_330 (all_split look9_352 (all_split look9_374 (all_split look9_396 (all_split look9_418 (all_done (by rw [en_len.2.2.2.2.2.2]; decide)))))))))))))))))))))
theorem all_chk : ∀ n : Nat, 3 ≤ n → n ≤ 9 → ∀ ds ∈ en n, chk 3000 n ds = true := by
  intro n h3 h9
  have h : ((en n).drop 0).all (chk 3000 n) = true := by
    match n, h3, h9 with
    | 3, _, _ => exact all3
    | 4, _, _ => exact all4
    | 5, _, _ => exact all5
    | 6, _, _ => exact all6
    | 7, _, _ => exact all7
    | 8, _, _ => exact all8
    | 9, _, _ => exact all9
  rw [List.drop_zero, List.all_eq_true] at h
  exact h
theorem FnQuidditiesTell : laws_FnQuidditiesTell.Pure := by
  intro l0 l1 _ h0 _ h1
  exact ⟨3000, tell_of (by decide) all_chk l0 l1 h0 h1⟩

end Go.Proofs.YtobddjeefcoikaaGreat.Pure
