/- Functions of the program as plain Lean functions, each with a proof that the Go code computes just that; written by a turned copy of the kit's printer, not by hand. No condition but what each theorem names. -/
import Derived.Test.YtidpnehbmjfdlaaQ0
namespace Go.Proofs.Ytidpnehbmjfdlaa.Q
open Go.RowKit Go.Proofs.YtidpnehbmjfdlaaW.PrintWords Go.Proofs.YtidpnehbmjfdlaaW.PrintLast Go.Proofs.YtidpnehbmjfdlaaW.PrintMore
attribute [local go_sem] max2_int min2_int max_two min_two max_three min_three max_four min_four   -- for this text's walks alone
set_option linter.unusedVariables false
set_option linter.unusedSimpArgs false

/-! ### marks_New: function 9 -/
mutual
def marks_New.j0 : Nat → Int → Bool → Option (List Int × Int)
  | 0, _, _ => none
  | k + 1, x0, x11 => if x11 = true then (some (([] : List Int), 2)) else (marks_New.l0 k x0 ([] : List Int) 0)
def marks_New.l0 : Nat → Int → List Int → Int → Option (List Int × Int)
  | 0, _, _, _ => none
  | k + 1, x0, x4, x5 => if x5 < x0 then (if x4.length < 17592186044416 then (marks_New.l0 k x0 (x4 ++ [(-9223372036854775808)]) (wrap64 (x5 + 1))) else (none)) else (some (x4, 0))
end
def marks_New.f (k : Nat) (a0 : Int) : Option (List Int × Int) := if a0 < 1 then (marks_New.j0 k a0 true) else (marks_New.j0 k a0 (decide (a0 > 4)))
theorem marks_New.mono_l : ∀ k, (∀ y0 y1, LeO (marks_New.j0 k y0 y1) (marks_New.j0 (k + 1) y0 y1)) ∧ (∀ y0 y1 y2, LeO (marks_New.l0 k y0 y1 y2) (marks_New.l0 (k + 1) y0 y1 y2))
  | 0 => ⟨fun _ _ r h => by simp [marks_New.j0] at h, fun _ _ _ r h => by simp [marks_New.l0] at h⟩
  | k + 1 => by
    obtain ⟨ih0, ih1⟩ := marks_New.mono_l k
    refine ⟨?_, ?_⟩
    · intro y0 y1
      unfold marks_New.j0
      repeat' first
      | (with_reducible exact ih0 _ _)
      | (with_reducible exact ih1 _ _ _)
      | (with_reducible exact LeO.refl _)
      | (with_reducible exact LeO.none _)
      | (with_reducible refine LeO.ite ?_ ?_)
      | (with_reducible refine LeO.bind ?_ (fun _ => ?_))
      | exact ih0 _ _
      | exact ih1 _ _ _
      | exact LeO.none _
      | refine LeO.ite ?_ ?_
      | refine LeO.bind ?_ (fun _ => ?_)
    · intro y0 y1 y2
      unfold marks_New.l0
      repeat' first
      | (with_reducible exact ih0 _ _)
      | (with_reducible exact ih1 _ _ _)
      | (with_reducible exact LeO.refl _)
      | (with_reducible exact LeO.none _)
      | (with_reducible refine LeO.ite ?_ ?_)
      | (with_reducible refine LeO.bind ?_ (fun _ => ?_))
      | exact ih0 _ _
      | exact ih1 _ _ _
      | exact LeO.none _
      | refine LeO.ite ?_ ?_
      | refine LeO.bind ?_ (fun _ => ?_)
theorem marks_New.mono : ∀ a0 k, LeO (marks_New.f k a0) (marks_New.f (k + 1) a0) := by
  intro a0 k
  obtain ⟨ih0, ih1⟩ := marks_New.mono_l k
  unfold marks_New.f
  repeat' first
      | (with_reducible exact ih0 _ _)
      | (with_reducible exact ih1 _ _ _)
      | (with_reducible exact LeO.refl _)
      | (with_reducible exact LeO.none _)
      | (with_reducible refine LeO.ite ?_ ?_)
      | (with_reducible refine LeO.bind ?_ (fun _ => ?_))
      | exact ih0 _ _
      | exact ih1 _ _ _
      | exact LeO.none _
      | refine LeO.ite ?_ ?_
      | refine LeO.bind ?_ (fun _ => ?_)

end Go.Proofs.Ytidpnehbmjfdlaa.Q
