/- What Put and New of channel and of its reference compute. No Go, no memory. -/
import Derived.Test.YtiilljmhddjmeaaQ8
import Derived.Test.YtiilljmhddjmeaaQ9
import Derived.Test.YtiilljmhddjmeaaSpec
namespace Go.Proofs.Ytiilljmhddjmeaa.Q
open Go.RowKit Go.Proofs.YtiilljmhddjmeaaW.PrintWords Go.Proofs.YtiilljmhddjmeaaW.PrintLast Go.Proofs.YtiilljmhddjmeaaW.PrintMore
set_option linter.unusedVariables false
set_option linter.unusedSimpArgs false
def putOf (room : Int) (l : List S35) (x : S35) : Int × List S35 × Int :=
  if chk room l = 0 then (if ok x = true then (if (l.length : Int) = room then (0, [], 18) else (room, l ++ [x], 0)) else (0, [], 8)) else (0, [], chk room l)
theorem put_ev (room : Int) (l : List S35) (x : S35) : Ev (fun k => channel_Put.f k room l x.f0 x.f1.f0 x.f1.f1 x.f1.f2 x.f2 x.f3.f0 x.f3.f1.f0 x.f3.f1.f1 x.f3.f2.f0 x.f3.f2.f1) (putOf room l x) := by
  unfold channel_Put.f putOf
  refine Ev.bind (check_ev room l) ?_
  by_cases h : chk room l = 0
  · have hs := chk_small h
    simp only [if_pos h]
    refine Ev.bind (mcheck_ev _ _ _ _ _ _ _ _ _ _) ?_
    show Ev _ (if ok x = true then _ else _)
    have ho : valid x.f0 x.f1.f0 x.f1.f1 x.f1.f2 x.f2 x.f3.f0 x.f3.f1.f0 x.f3.f1.f1 x.f3.f2.f0 x.f3.f2.f1 = ok x := rfl
    rw [ho]
    cases ok x
    · exact Ev.now _
    · simp only [if_true]
      by_cases h0 : (l.length : Int) = room
      · simp only [if_pos h0]; exact Ev.now _
      · simp only [if_neg h0, Option.bind_some, List.nil_append, List.length_nil, Nat.zero_add]
        rw [if_pos (by omega), if_pos (by omega)]
        exact Ev.now _
  · simp only [if_neg h]; exact Ev.now _
theorem rput_ev (room : Int) (l : List S35) (x : S35) : Ev (fun k => tailwaterref26_Put.f k room l x.f0 x.f1.f0 x.f1.f1 x.f1.f2 x.f2 x.f3.f0 x.f3.f1.f0 x.f3.f1.f1 x.f3.f2.f0 x.f3.f2.f1) (putOf room l x) := by
  unfold tailwaterref26_Put.f putOf
  refine Ev.bind (rcheck_ev room l) ?_
  by_cases h : chk room l = 0
  · have hs := chk_small h
    simp only [if_pos h]
    refine Ev.bind (valid_ev _ _ _ _ _ _ _ _ _ _) ?_
    have ho : valid x.f0 x.f1.f0 x.f1.f1 x.f1.f2 x.f2 x.f3.f0 x.f3.f1.f0 x.f3.f1.f1 x.f3.f2.f0 x.f3.f2.f1 = ok x := rfl
    rw [ho]
    cases ok x
    · exact Ev.now _
    · simp only [if_true]
      by_cases h0 : (l.length : Int) = room
      · simp only [if_pos h0]; exact Ev.now _
      · simp only [if_neg h0]
        rw [twin_eq room l (by omega), Option.bind_some]
        dsimp only
        rw [if_pos (by omega)]
        exact Ev.now _
  · simp only [if_neg h]; exact Ev.now _
def newOf (room : Int) : Int × List S35 × Int := if 1 ≤ room ∧ room ≤ 8 then (room, [], 0) else (0, [], 2)
theorem new_eq (room : Int) : channel_New.f room = some (newOf room) := by
  unfold channel_New.f newOf
  by_cases h : room < 1
  · rw [if_pos h, if_neg (by omega)]
  · rw [if_neg h]
    by_cases h2 : room > 8
    · rw [if_pos h2, if_neg (by omega)]
    · rw [if_neg h2, if_pos (by omega)]
theorem rnew_eq (room : Int) : tailwaterref26_New.f room = some (newOf room) := by
  unfold tailwaterref26_New.f newOf
  by_cases h : room < 1
  · rw [if_pos h, if_neg (by omega)]
  · rw [if_neg h]
    by_cases h2 : room > 8
    · rw [if_pos h2, if_neg (by omega)]
    · rw [if_neg h2, if_pos (by omega)]
theorem put_len (room : Int) (l : List S35) (x : S35) : (putOf room l x).2.1.length ≤ 9 := by
  unfold putOf
  by_cases h : chk room l = 0
  · have := chk_small h
    rw [if_pos h]
    split
    · split
      · simp
      · simp only [List.length_append, List.length_singleton]; omega
    · simp
  · rw [if_neg h]; simp
theorem new_len (room : Int) : (newOf room).2.1.length ≤ 9 := by
  unfold newOf; split <;> simp
end Go.Proofs.Ytiilljmhddjmeaa.Q
