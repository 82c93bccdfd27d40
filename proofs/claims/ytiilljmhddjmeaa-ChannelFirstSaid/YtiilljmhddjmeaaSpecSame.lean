/- What the functions of channel and of its reference compute, as plain functions on lists of messages. No Go, no memory. -/
import Derived.Test.YtiilljmhddjmeaaF15
import Derived.Test.YtiilljmhddjmeaaF24
import Derived.Test.YtiilljmhddjmeaaQ0
import Derived.Test.YtiilljmhddjmeaaSpecBase
namespace Go.Proofs.Ytiilljmhddjmeaa.Q
open Go.RowKit Go.Proofs.YtiilljmhddjmeaaW.PrintWords Go.Proofs.YtiilljmhddjmeaaW.PrintLast
set_option linter.unusedVariables false
set_option linter.unusedSimpArgs false
theorem same_loop (l : List S35) (hl : l.length ≤ 100) (d : Nat) : ∀ j : Nat, l.length - j = d → j ≤ l.length → Ev (fun k => tailwaterref26_SameList.l0 k l l (j : Int)) true := by
  induction d with
  | zero =>
    intro j hd hj
    refine Ev.step (fun k => ?_) (Ev.now _)
    rw [tailwaterref26_SameList.l0, if_neg (by omega)]
  | succ d ih =>
    intro j hd hj
    have hlt : j < l.length := by omega
    refine Ev.step (fun k => ?_) (ih (j + 1) (by omega) (by omega))
    rw [tailwaterref26_SameList.l0, if_pos (by omega), if_pos (by omega), if_pos (by omega), wrap_next hlt (by omega)]
    simp only [beq_self_eq_true, Bool.not_true, Bool.or_self, if_neg (show ¬ (false = true) by decide)]
theorem same_ev (room : Int) (l : List S35) (hl : l.length ≤ 100) : Ev (fun k => tailwaterref26_Same.f k room l room l) true := by
  unfold tailwaterref26_Same.f tailwaterref26_SameList.f
  simp only [if_true]
  exact Ev.bind (same_loop l hl _ 0 rfl (by omega)) (Ev.now _)
end Go.Proofs.Ytiilljmhddjmeaa.Q
