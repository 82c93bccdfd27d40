/- Take and Left return what the reference returns, and leave the queue as it is. No condition. -/
import Derived.Test.YtiilljmhddjmeaaQ7
import Derived.Test.YtiilljmhddjmeaaSpec
namespace Go.Proofs.Ytiilljmhddjmeaa.Q
open Go.RowKit Go.Proofs.YtiilljmhddjmeaaW.PrintWords Go.Proofs.YtiilljmhddjmeaaW.PrintLast Go.Proofs.YtiilljmhddjmeaaW.PrintMore
set_option linter.unusedVariables false
set_option linter.unusedSimpArgs false
set_option maxHeartbeats 4000000 in
theorem ChannelTakes (room : Int) (l : List S35) : ∃ k, tailwaterlaw26_ChannelTakes.f k room l = some true := by
  refine Ev.rounds (g := fun k => tailwaterlaw26_ChannelTakes.f k room l) ?_
  unfold tailwaterlaw26_ChannelTakes.f tailwaterref26_Great.f
  simp only [Option.bind_some]
  by_cases hg : (l.length : Int) > 20
  · rw [decide_eq_true hg]; simp only [if_true]; exact Ev.now _
  · rw [decide_eq_false hg]
    simp only [if_neg (show ¬ (false = true) by decide)]
    rw [twin_eq room l (by omega)]
    simp only [Option.bind_some]
    refine Ev.bind (take_ev room l) (Ev.bind (rtake_ev room l) (Ev.bind (left_ev room l) (Ev.bind (rleft_ev room l) ?_)))
    simp only [beq_self_eq_true, Bool.and_self, if_true]
    refine Ev.bind (same_ev _ _ (by have := take_len room l; omega)) ?_
    simp only [if_true]
    exact Ev.bind (same_ev room l (by omega)) (Ev.now _)
end Go.Proofs.Ytiilljmhddjmeaa.Q
