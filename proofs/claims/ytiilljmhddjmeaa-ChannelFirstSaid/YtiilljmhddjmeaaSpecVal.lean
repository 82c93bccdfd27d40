/- What the functions of channel and of its reference compute, as plain functions on lists of messages. No Go, no memory. -/
import Derived.Test.YtiilljmhddjmeaaF23
import Derived.Test.YtiilljmhddjmeaaF28
import Derived.Test.YtiilljmhddjmeaaF29
import Derived.Test.YtiilljmhddjmeaaF30
import Derived.Test.YtiilljmhddjmeaaQ0
import Derived.Test.YtiilljmhddjmeaaSpecBase
namespace Go.Proofs.Ytiilljmhddjmeaa.Q
open Go.RowKit Go.Proofs.YtiilljmhddjmeaaW.PrintWords Go.Proofs.YtiilljmhddjmeaaW.PrintLast
set_option linter.unusedVariables false
set_option linter.unusedSimpArgs false
theorem mark25_eq (t : Int) : tailwaterref25_Mark.f t = some (mk t) := by
  unfold tailwaterref25_Mark.f mk tm
  by_cases h : t ≥ -1099511627776
  · rw [if_pos h]
    by_cases h2 : t ≤ 1099511627776
    · rw [if_pos h2]; simp [h, h2]
    · rw [if_neg h2]; simp [h2]
  · rw [if_neg h]; simp [show ¬ (-1099511627776 ≤ t) from h]
theorem right25_eq (a b c : Int) : tailwaterref25_Right.f a b c = some (tm b) := by
  unfold tailwaterref25_Right.f tm
  by_cases h : b ≥ -1099511627776
  · rw [if_pos h]; simp [h]
  · rw [if_neg h]; simp; omega
theorem row25_eq (p q r s u : Int) : tailwaterref25_Row.f p q r s u = some (rowOk q r) := by
  unfold tailwaterref25_Row.f rowOk
  by_cases h : q < r
  · rw [if_pos h]
    by_cases h2 : q ≥ -2199023255552
    · rw [if_pos h2]; simp [h, h2]
    · rw [if_neg h2]; simp [show ¬ (-2199023255552 ≤ q) from h2]
  · rw [if_neg h]; simp [h]
theorem valid_ev (f a b c t p q r s u : Int) : Ev (fun k => tailwaterref25_Valid.f k f a b c t p q r s u) (valid f a b c t p q r s u) := by
  refine ⟨1, fun k hk => ?_⟩
  obtain ⟨k, rfl⟩ : ∃ m, k = m + 1 := ⟨k - 1, by omega⟩
  unfold tailwaterref25_Valid.f valid
  have main : ∀ e : Bool, e = (f == 1 || f == 4) → tailwaterref25_Valid.j0 (k + 1) f e f a b c t p q r s u = some (if f = 1 ∨ f = 4 then tm b && (t == 0 && z5 p q r s u) else if f = 2 then mk t && (z3 a b c && z5 p q r s u) else if f = 3 then rowOk q r && (z3 a b c && t == 0) else false) := by
    intro e he
    rw [tailwaterref25_Valid.j0, right25_eq, mark25_eq, row25_eq]
    simp only [Option.bind_some]
    by_cases h1 : f = 1 ∨ f = 4
    · rw [if_pos h1, if_pos (by rw [he]; simpa using h1)]
      unfold z5
      cases tm b <;> simp
    · rw [if_neg h1, if_neg (by rw [he]; simpa using h1)]
      by_cases h2 : f = 2
      · rw [if_pos h2, if_pos h2]
        unfold z3 z5
        cases mk t <;> simp
      · rw [if_neg h2, if_neg h2]
        by_cases h3 : f = 3
        · rw [if_pos h3, if_pos h3]
          unfold z3
          cases rowOk q r <;> simp
        · rw [if_neg h3, if_neg h3]
  dsimp only
  by_cases h : f = 1
  · rw [if_pos h]; exact main _ (by simp [h])
  · rw [if_neg h]; exact main _ (by simp [h])
end Go.Proofs.Ytiilljmhddjmeaa.Q
