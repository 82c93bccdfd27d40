/- Functions of the program as plain Lean functions, each with a proof that the Go code computes just that; written by a turned copy of the kit's printer, not by hand. No condition but what each theorem names. -/
import Derived.Test.YtiilljmhddjmeaaF20
import Derived.Test.YtiilljmhddjmeaaF27
import Derived.Test.YtiilljmhddjmeaaQ0
namespace Go.Proofs.Ytiilljmhddjmeaa.Q
open Go.RowKit Go.Proofs.YtiilljmhddjmeaaW.PrintWords Go.Proofs.YtiilljmhddjmeaaW.PrintLast
set_option linter.unusedVariables false
set_option linter.unusedSimpArgs false

/-! ### channel_Put: function 16 -/
def channel_Put.f (k : Nat) (a0_0 : Int) (l0_1 : List (S35)) (a1_0 : Int) (a1_1 : Int) (a1_2 : Int) (a1_3 : Int) (a1_4 : Int) (a1_5 : Int) (a1_6 : Int) (a1_7 : Int) (a1_8 : Int) (a1_9 : Int) : Option (Int × (List (S35)) × Int) := (channel_Check.f k a0_0 l0_1).bind fun t215 => (if t215 = 0 then ((message_Check.f k a1_0 a1_1 a1_2 a1_3 a1_4 a1_5 a1_6 a1_7 a1_8 a1_9).bind fun t216 => (if t216 = 0 then (if (l0_1.length : Int) = a0_0 then (some (0, ([] : List (S35)), 18)) else ((some (([] : List (S35)) : List (S35))).bind fun y217 => (if y217.length + l0_1.length < 1759218604441 then ((some (y217 ++ l0_1 : List (S35))).bind fun y220 => (if y220.length < 1759218604441 then (some (a0_0, (y220 ++ [(⟨a1_0, (⟨a1_1, a1_2, a1_3⟩ : S28), a1_4, (⟨a1_5, (⟨a1_6, a1_7⟩ : S30), (⟨a1_8, a1_9⟩ : S31)⟩ : S33)⟩ : S35)]), 0)) else (none))) else (none)))) else (some (0, ([] : List (S35)), t216)))) else (some (0, ([] : List (S35)), t215)))
theorem channel_Put.mono : ∀ a0 a1 a2 a3 a4 a5 a6 a7 a8 a9 a10 a11 k, LeO (channel_Put.f k a0 a1 a2 a3 a4 a5 a6 a7 a8 a9 a10 a11) (channel_Put.f (k + 1) a0 a1 a2 a3 a4 a5 a6 a7 a8 a9 a10 a11) := by
  intro a0 a1 a2 a3 a4 a5 a6 a7 a8 a9 a10 a11 k
  unfold channel_Put.f
  repeat' first
      | (with_reducible exact channel_Check.mono _ _ _)
      | (with_reducible exact message_Check.mono _ _ _ _ _ _ _ _ _ _ _)
      | (with_reducible exact LeO.refl _)
      | (with_reducible exact LeO.none _)
      | (with_reducible refine LeO.ite ?_ ?_)
      | (with_reducible refine LeO.bind ?_ (fun _ => ?_))
      | exact channel_Check.mono _ _ _
      | exact message_Check.mono _ _ _ _ _ _ _ _ _ _ _
      | exact LeO.none _
      | refine LeO.ite ?_ ?_
      | refine LeO.bind ?_ (fun _ => ?_)
end Go.Proofs.Ytiilljmhddjmeaa.Q
