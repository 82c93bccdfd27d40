/- What the functions of channel and of its reference compute, as plain functions on lists of messages. No Go, no memory. -/
import Derived.Test.YtiilljmhddjmeaaF21
import Derived.Test.YtiilljmhddjmeaaF23
import Derived.Test.YtiilljmhddjmeaaQ0
import Derived.Test.YtiilljmhddjmeaaSpecBase
import Derived.Test.YtiilljmhddjmeaaSpecVal
namespace Go.Proofs.Ytiilljmhddjmeaa.Q
open Go.RowKit Go.Proofs.YtiilljmhddjmeaaW.PrintWords Go.Proofs.YtiilljmhddjmeaaW.PrintLast
set_option linter.unusedVariables false
set_option linter.unusedSimpArgs false
theorem rcheck_loop (room : Int) (l : List S35) (hl : l.length ≤ 8) (d : Nat) : ∀ j : Nat, l.length - j = d → j ≤ l.length → Ev (fun k => tailwaterref26_Check.l0 k (j : Int) room l) (chkL (l.drop j)) := by
  induction d with
  | zero =>
    intro j hd hj
    obtain rfl : j = l.length := by omega
    refine Ev.step (fun k => ?_) (Ev.now _)
    rw [tailwaterref26_Check.l0, if_neg (by omega), List.drop_length]; rfl
  | succ d ih =>
    intro j hd hj
    have hlt : j < l.length := by omega
    have hn := ih (j + 1) (by omega) (by omega)
    have hw := wrap_next hlt (by omega)
    rw [List.drop_eq_getElem_cons hlt, chkL_cons]
    refine Ev.step (f := fun k => (tailwaterref25_Valid.f k (l[j].f0) (l[j].f1.f0) (l[j].f1.f1) (l[j].f1.f2) (l[j].f2) (l[j].f3.f0) (l[j].f3.f1.f0) (l[j].f3.f1.f1) (l[j].f3.f2.f0) (l[j].f3.f2.f1)).bind fun t => (if t = true then tailwaterref26_Check.l0 k ((j + 1 : Nat) : Int) room l else some 8)) (fun k => ?_) ?_
    · rw [tailwaterref26_Check.l0, if_pos (by omega), if_pos (by omega), rd_at hlt, hw]
    · refine Ev.bind (valid_ev _ _ _ _ _ _ _ _ _ _) ?_
      unfold ok
      cases valid (l[j].f0) (l[j].f1.f0) (l[j].f1.f1) (l[j].f1.f2) (l[j].f2) (l[j].f3.f0) (l[j].f3.f1.f0) (l[j].f3.f1.f1) (l[j].f3.f2.f0) (l[j].f3.f2.f1)
      · exact Ev.now _
      · exact hn
theorem rcheck_t (room : Int) (l : List S35) : Ev (fun k => tailwaterref26_Check.j0 k true room l) 8 :=
  Ev.step (f := fun k => some 8) (fun k => by rw [tailwaterref26_Check.j0, if_pos rfl]) (Ev.now _)
theorem rcheck_ev (room : Int) (l : List S35) : Ev (fun k => tailwaterref26_Check.f k room l) (chk room l) := by
  unfold tailwaterref26_Check.f chk
  by_cases h1 : room < 1
  · simp only [if_pos h1]; rw [if_pos (.inl h1)]; exact rcheck_t room l
  · simp only [if_neg h1]
    by_cases h2 : room > 8
    · simp only [if_pos h2]; rw [if_pos (.inr (.inl h2))]; exact rcheck_t room l
    · simp only [if_neg h2]
      by_cases h3 : (l.length : Int) > room
      · rw [decide_eq_true h3, if_pos (.inr (.inr h3))]; exact rcheck_t room l
      · rw [decide_eq_false h3, if_neg (by omega)]
        exact Ev.step (f := fun k => tailwaterref26_Check.l0 k 0 room l) (fun k => by rw [tailwaterref26_Check.j0, if_neg (by decide)]) (rcheck_loop room l (by omega) _ 0 rfl (by omega))
end Go.Proofs.Ytiilljmhddjmeaa.Q
