/- marks.Raise answers what the reference answers, and leaves the marks as they are. No condition but the machine's own bounds. -/
import Derived.Test.YtidpnehbmjfdlaaQ12
import Derived.Test.YtidpnehbmjfdlaaSpec
namespace Go.Proofs.Ytidpnehbmjfdlaa.Pure
open Go.RowKit Go.Proofs.Ytidpnehbmjfdlaa.Q Go.Proofs.YtidpnehbmjfdlaaW.PrintWords Go.Proofs.YtidpnehbmjfdlaaW.PrintLast
set_option linter.unusedVariables false
theorem MarksRaises : tailwaterlaw31_MarksRaises.Pure := by
  intro l a t _ _ _ _ _
  refine Ev.rounds (g := fun k => tailwaterlaw31_MarksRaises.f k l a t) ?_
  unfold tailwaterlaw31_MarksRaises.f
  by_cases h : (l.length : Int) > 20
  · simp only [if_pos h]; exact Ev.now _
  · simp only [if_neg h, Option.bind_some, List.length_nil, Nat.zero_add, List.nil_append, if_pos (show l.length < 17592186044416 by omega)]
    refine Ev.bind (raise_ev l a t) (Ev.bind (rraise_ev l a t) ?_)
    refine Ev.bind (same_ev _ (by have := raiseOf_len l a t; omega)) ?_
    simp only [if_true, beq_self_eq_true]
    exact Ev.bind (same_ev _ (by omega)) (Ev.now _)
end Go.Proofs.Ytidpnehbmjfdlaa.Pure
