/- late.Mark, Split and Check answer what the reference answers: the law's function answers true for every list of events. No condition but the machine's bound on lengths. -/
import Derived.Test.YtdmaedaobjcocaaQ5
import Derived.Test.YtdmaedaobjcocaaSpec
namespace Go.Proofs.Ytdmaedaobjcocaa.Q
open Go.RowKit Go.Proofs.YtdmaedaobjcocaaW.PrintWords Go.Proofs.YtdmaedaobjcocaaW.PrintLast Go.Proofs.YtdmaedaobjcocaaW.PrintMore
set_option linter.unusedVariables false
theorem same_loop (l : List S38) (hl : l.length ≤ 9223372036854775807) (d : Nat) : ∀ j : Nat, l.length - j = d → j ≤ l.length → Ev (fun k => tailwaterref20_Same.l0 k l l (j : Int)) true := by
  induction d with
  | zero =>
    intro j hd hj
    refine Ev.step (fun k => ?_) (Ev.now _)
    rw [tailwaterref20_Same.l0, if_neg (by omega)]
  | succ d ih =>
    intro j hd hj
    have hlt : j < l.length := by omega
    refine Ev.step (fun k => ?_) (ih (j + 1) (by omega) (by omega))
    rw [tailwaterref20_Same.l0, if_pos (by omega), if_pos (by omega), if_pos (by omega), wrap_next hlt hl, if_neg (by simp)]
theorem same_ev (l : List S38) (hl : l.length ≤ 9223372036854775807) : Ev (fun k => tailwaterref20_Same.f k l l) true := by
  unfold tailwaterref20_Same.f
  simp only [if_true]
  exact same_loop l hl _ 0 rfl (by omega)
theorem split_len (l : List S40) : (splitOf l).1.length ≤ 60 ∧ (splitOf l).2.1.length ≤ 60 := by
  unfold splitOf
  by_cases h : errOf l = 0
  · rw [if_pos h]
    have := errOf_len h
    exact ⟨by have := recFrom_length false l low; simp; omega, by have := recFrom_length true l low; simp; omega⟩
  · rw [if_neg h]; simp
theorem LateTells (l : List S40) (hl : l.length ≤ 9223372036854775807) : ∃ k, tailwaterlaw20_LateTells.f k l = some true := by
  refine Ev.rounds (g := fun k => tailwaterlaw20_LateTells.f k l) ?_
  unfold tailwaterlaw20_LateTells.f
  by_cases h : (l.length : Int) > 100
  · simp only [if_pos h]; exact Ev.now _
  · simp only [if_neg h]
    refine Ev.bind (late_mark_ev l hl) (Ev.bind (ref_mark_ev l hl) (Ev.bind (late_split_ev l hl) (Ev.bind (ref_split_ev l hl) ?_)))
    simp only [if_true]
    refine Ev.bind (same_ev _ (by have := (split_len l).1; omega)) ?_
    simp only [if_true]
    refine Ev.bind (same_ev _ (by have := (split_len l).2; omega)) ?_
    simp only [if_true]
    refine Ev.bind (late_check_ev l hl) (Ev.bind (ref_check_ev l hl) ?_)
    simp only [beq_self_eq_true]
    exact Ev.now _
end Go.Proofs.Ytdmaedaobjcocaa.Q
