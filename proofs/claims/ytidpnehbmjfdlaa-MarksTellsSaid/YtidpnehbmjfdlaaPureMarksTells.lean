/- marks.New, Least and Check answer what the reference answers. No condition but the machine's own bounds. -/
import Derived.Test.YtidpnehbmjfdlaaQ7
import Derived.Test.YtidpnehbmjfdlaaSpec
namespace Go.Proofs.Ytidpnehbmjfdlaa.Pure
open Go.RowKit Go.Proofs.Ytidpnehbmjfdlaa.Q Go.Proofs.YtidpnehbmjfdlaaW.PrintWords Go.Proofs.YtidpnehbmjfdlaaW.PrintLast
set_option linter.unusedVariables false
theorem MarksTells : tailwaterlaw31_MarksTells.Pure := by
  intro l a _ _ _ _
  refine Ev.rounds (g := fun k => tailwaterlaw31_MarksTells.f k l a) ?_
  unfold tailwaterlaw31_MarksTells.f
  by_cases h : (l.length : Int) > 20
  · simp only [if_pos h]; exact Ev.now _
  · simp only [if_neg h]
    refine Ev.bind (new_ev a) (Ev.bind (rnew_ev a) (Ev.bind (least_ev l) (Ev.bind (rleast_ev l) ?_)))
    refine Ev.bind (same_ev _ (by have := new_len a; omega)) ?_
    simp only [if_true]
    refine Ev.bind (check_ev l) (Ev.bind (rcheck_ev l) ?_)
    simp only [beq_self_eq_true]
    exact Ev.now _
end Go.Proofs.Ytidpnehbmjfdlaa.Pure
