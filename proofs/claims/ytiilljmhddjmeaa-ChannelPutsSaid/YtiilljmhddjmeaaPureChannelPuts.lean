/- Check, New and Put return what the reference returns, and leave the queue as it is. No condition. -/
import Derived.Test.YtiilljmhddjmeaaQ10
import Derived.Test.YtiilljmhddjmeaaSpec2
namespace Go.Proofs.Ytiilljmhddjmeaa.Q
open Go.RowKit Go.Proofs.YtiilljmhddjmeaaW.PrintWords Go.Proofs.YtiilljmhddjmeaaW.PrintLast Go.Proofs.YtiilljmhddjmeaaW.PrintMore
set_option linter.unusedVariables false
set_option linter.unusedSimpArgs false
set_option maxHeartbeats 4000000 in
theorem ChannelPuts (room : Int) (l : List S35) (x : S35) (n : Int) : ∃ k, tailwaterlaw26_ChannelPuts.f k room l x.f0 x.f1.f0 x.f1.f1 x.f1.f2 x.f2 x.f3.f0 x.f3.f1.f0 x.f3.f1.f1 x.f3.f2.f0 x.f3.f2.f1 n = some true := by
  refine Ev.rounds (g := fun k => tailwaterlaw26_ChannelPuts.f k room l x.f0 x.f1.f0 x.f1.f1 x.f1.f2 x.f2 x.f3.f0 x.f3.f1.f0 x.f3.f1.f1 x.f3.f2.f0 x.f3.f2.f1 n) ?_
  unfold tailwaterlaw26_ChannelPuts.f tailwaterref26_Great.f
  simp only [Option.bind_some]
  by_cases hg : (l.length : Int) > 20
  · rw [decide_eq_true hg]; simp only [if_true]; exact Ev.now _
  · rw [decide_eq_false hg]
    simp only [if_neg (show ¬ (false = true) by decide)]
    rw [twin_eq room l (by omega), new_eq, rnew_eq]
    simp only [Option.bind_some]
    refine Ev.bind (put_ev room l x) (Ev.bind (rput_ev room l x) ?_)
    refine Ev.bind (same_ev _ _ (by have := put_len room l x; omega)) ?_
    simp only [if_true]
    refine Ev.bind (same_ev _ _ (by have := new_len n; omega)) ?_
    simp only [if_true]
    refine Ev.bind (check_ev room l) (Ev.bind (rcheck_ev room l) ?_)
    simp only [if_true]
    exact Ev.bind (same_ev room l (by omega)) (Ev.now _)
end Go.Proofs.Ytiilljmhddjmeaa.Q
