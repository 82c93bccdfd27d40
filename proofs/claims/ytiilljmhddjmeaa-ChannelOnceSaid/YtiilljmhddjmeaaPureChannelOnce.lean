/- What was put into an empty queue is taken at once, and leaves it empty; room never changes. No condition. -/
import Derived.Test.YtiilljmhddjmeaaF7
import Derived.Test.YtiilljmhddjmeaaHAlive
import Derived.Test.YtiilljmhddjmeaaQ0
import Derived.Test.YtiilljmhddjmeaaSpecBase
import Derived.Test.YtiilljmhddjmeaaSpecSame
import Derived.Test.YtiilljmhddjmeaaSpecVal
namespace Go.Proofs.Ytiilljmhddjmeaa.Q
open Go.RowKit Go.Proofs.YtiilljmhddjmeaaW.PrintWords Go.Proofs.YtiilljmhddjmeaaW.PrintLast
set_option linter.unusedVariables false
set_option linter.unusedSimpArgs false
theorem chk_nil {room : Int} (h : 1 ≤ room) (h8 : room ≤ 8) : chk room [] = 0 := by
  unfold chk
  rw [if_neg (by simp; omega)]; rfl
theorem chk_one {room : Int} {x : S35} (h : 1 ≤ room) (h8 : room ≤ 8) (hx : ok x = true) : chk room [x] = 0 := by
  unfold chk
  rw [if_neg (by simp; omega), chkL_cons, if_pos hx]; rfl
set_option maxHeartbeats 4000000 in
theorem ChannelOnce (room : Int) (x : S35) : ∃ k, tailwaterlaw26_ChannelOnce.f k room x.f0 x.f1.f0 x.f1.f1 x.f1.f2 x.f2 x.f3.f0 x.f3.f1.f0 x.f3.f1.f1 x.f3.f2.f0 x.f3.f2.f1 = some true := by
  refine Ev.rounds (g := fun k => tailwaterlaw26_ChannelOnce.f k room x.f0 x.f1.f0 x.f1.f1 x.f1.f2 x.f2 x.f3.f0 x.f3.f1.f0 x.f3.f1.f1 x.f3.f2.f0 x.f3.f2.f1) ?_
  unfold tailwaterlaw26_ChannelOnce.f
  refine Ev.bind alive_ev ?_
  rw [new_eq]
  simp only [Option.bind_some, if_true]
  by_cases hr : 1 ≤ room ∧ room ≤ 8
  · have e1 : newOf room = (room, [], 0) := by unfold newOf; rw [if_pos hr]
    rw [e1]
    simp only [if_true]
    refine Ev.bind (put_ev room [] x) ?_
    cases ho : ok x
    · have e2 : putOf room [] x = (0, [], 8) := by unfold putOf; rw [if_pos (chk_nil hr.1 hr.2), ho]; rfl
      rw [e2]
      simp only [eq_false (show ¬ (8 : Int) = 0 by decide), if_false, if_true]
      refine Ev.bind (valid_ev _ _ _ _ _ _ _ _ _ _) ?_
      have h2 : valid x.f0 x.f1.f0 x.f1.f1 x.f1.f2 x.f2 x.f3.f0 x.f3.f1.f0 x.f3.f1.f1 x.f3.f2.f0 x.f3.f2.f1 = false := ho
      rw [h2]
      exact Ev.now _
    · have e2 : putOf room [] x = (room, [x], 0) := by unfold putOf; rw [if_pos (chk_nil hr.1 hr.2), ho, if_pos rfl, if_neg (by simp; omega)]; rfl
      rw [e2]
      simp only [if_true]
      have e3 : takeOf room [x] = (x.f0, x.f1.f0, x.f1.f1, x.f1.f2, x.f2, x.f3.f0, x.f3.f1.f0, x.f3.f1.f1, x.f3.f2.f0, x.f3.f2.f1, room, [], 0) := by unfold takeOf; rw [if_pos (chk_one hr.1 hr.2 ho), if_neg (by simp)]; rfl
      have e4 : leftOf room [x] = (wrap64 (room - 1), 0) := by unfold leftOf; rw [if_pos (chk_one hr.1 hr.2 ho)]; rfl
      refine Ev.bind (e3 ▸ take_ev room [x]) (Ev.bind (e4 ▸ left_ev room [x]) ?_)
      simp only [if_true, beq_self_eq_true, Bool.and_self]
      refine Ev.bind (same_ev room [] (by simp)) ?_
      simp only [if_true]
      exact Ev.now _
  · have e1 : newOf room = (0, [], 2) := by unfold newOf; rw [if_neg hr]
    rw [e1]
    exact Ev.now _
end Go.Proofs.Ytiilljmhddjmeaa.Q
