/- Functions of the program as plain Lean functions, each with a proof that the Go code computes just that; written by a turned copy of the kit's printer, not by hand. No condition but what each theorem names. -/
import Derived.Test.YtiilljmhddjmeaaF20
import Derived.Test.YtiilljmhddjmeaaQ0
namespace Go.Proofs.Ytiilljmhddjmeaa.Q
open Go.RowKit Go.Proofs.YtiilljmhddjmeaaW.PrintWords Go.Proofs.YtiilljmhddjmeaaW.PrintLast
set_option linter.unusedVariables false
set_option linter.unusedSimpArgs false

/-! ### channel_Take: function 11 -/
def channel_Take.f (k : Nat) (a0_0 : Int) (l0_1 : List (S35)) : Option (Int × Int × Int × Int × Int × Int × Int × Int × Int × Int × Int × (List (S35)) × Int) := (channel_Check.f k a0_0 l0_1).bind fun t123 => (if t123 = 0 then (if (l0_1.length : Int) = 0 then (some (0, 0, 0, 0, 0, 0, 0, 0, 0, 0, 0, ([] : List (S35)), 6)) else ((some (([] : List (S35)) : List (S35))).bind fun y124 => (if y124.length + l0_1.length < 1759218604441 then ((some (y124 ++ l0_1 : List (S35))).bind fun y127 => (if 0 < (y127.length : Int) then (if 1 ≤ (y127.length : Int) then (some ((rd_T35 y127 0).f0, (rd_T35 y127 0).f1.f0, (rd_T35 y127 0).f1.f1, (rd_T35 y127 0).f1.f2, (rd_T35 y127 0).f2, (rd_T35 y127 0).f3.f0, (rd_T35 y127 0).f3.f1.f0, (rd_T35 y127 0).f3.f1.f1, (rd_T35 y127 0).f3.f2.f0, (rd_T35 y127 0).f3.f2.f1, a0_0, (y127.drop (1 : Int).toNat), 0)) else (none)) else (none))) else (none)))) else (some (0, 0, 0, 0, 0, 0, 0, 0, 0, 0, 0, ([] : List (S35)), t123)))
theorem channel_Take.mono : ∀ a0 a1 k, LeO (channel_Take.f k a0 a1) (channel_Take.f (k + 1) a0 a1) := by
  intro a0 a1 k
  unfold channel_Take.f
  repeat' first
      | (with_reducible exact channel_Check.mono _ _ _)
      | (with_reducible exact LeO.refl _)
      | (with_reducible exact LeO.none _)
      | (with_reducible refine LeO.ite ?_ ?_)
      | (with_reducible refine LeO.bind ?_ (fun _ => ?_))
      | exact channel_Check.mono _ _ _
      | exact LeO.none _
      | refine LeO.ite ?_ ?_
      | refine LeO.bind ?_ (fun _ => ?_)
end Go.Proofs.Ytiilljmhddjmeaa.Q
