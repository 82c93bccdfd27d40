/- Functions of the program as plain Lean functions, each with a proof that the Go code computes just that; written by a turned copy of the kit's printer, not by hand. No condition but what each theorem names. -/
import Derived.Test.YtidpnehbmjfdlaaQ0
import Derived.Test.YtidpnehbmjfdlaaQ5
import Derived.Test.YtidpnehbmjfdlaaQ6
import Derived.Test.YtidpnehbmjfdlaaQ9
namespace Go.Proofs.Ytidpnehbmjfdlaa.Q
open Go.RowKit Go.Proofs.YtidpnehbmjfdlaaW.PrintWords Go.Proofs.YtidpnehbmjfdlaaW.PrintLast Go.Proofs.YtidpnehbmjfdlaaW.PrintMore
attribute [local go_sem] max2_int min2_int max_two min_two max_three min_three max_four min_four   -- for this text's walks alone
set_option linter.unusedVariables false
set_option linter.unusedSimpArgs false

/-! ### tailwaterlaw31_MarksBack: function 6 -/
mutual
def tailwaterlaw31_MarksBack.j0 : Nat → List Int → List Int → List Int → Bool → Bool → Option (Bool)
  | 0, _, _, _, _, _ => none
  | k + 1, x0, x1, x2, x7, x36 => if x36 = true then (some x7) else ((marks_Least.f k x0).bind fun bt163 => (if bt163.2 = 0 then (tailwaterlaw31_MarksBack.l0 k x0 x1 x2 x7 bt163.1 0) else (some false)))
def tailwaterlaw31_MarksBack.l0 : Nat → List Int → List Int → List Int → Bool → Int → Int → Option (Bool)
  | 0, _, _, _, _, _, _ => none
  | k + 1, x0, x1, x2, x7, x8, x10 => if x10 < (x1.length : Int) then (if 0 ≤ x10 then (if x10 < (x2.length : Int) then ((marks_Raise.f k x0 (rd x1 x10) (rd x2 x10)).bind fun bt168 => (if bt168.2.2 = 0 then ((marks_Least.f k bt168.1).bind fun bt177 => (if bt177.2 = 0 then (if bt177.1 < x8 then (tailwaterlaw31_MarksBack.j2 k x0 x1 x2 x7 x10 bt168.1 bt177.1 true) else (if (bt168.2.1 != (decide (bt177.1 > x8))) = true then (tailwaterlaw31_MarksBack.j2 k x0 x1 x2 x7 x10 bt168.1 bt177.1 true) else (tailwaterlaw31_MarksBack.j2 k x0 x1 x2 x7 x10 bt168.1 bt177.1 ((bt168.1.length : Int) != (x0.length : Int))))) else (tailwaterlaw31_MarksBack.j2 k x0 x1 x2 x7 x10 bt168.1 bt177.1 true))) else (if (rd x1 x10) ≥ 0 then (if (rd x1 x10) < (x0.length : Int) then ((tailwaterref25_Mark.f (rd x2 x10)).bind fun t176 => (if t176 = true then (some false) else (tailwaterlaw31_MarksBack.l0 k x0 x1 x2 x7 x8 (wrap64 (x10 + 1))))) else (tailwaterlaw31_MarksBack.l0 k x0 x1 x2 x7 x8 (wrap64 (x10 + 1)))) else (tailwaterlaw31_MarksBack.l0 k x0 x1 x2 x7 x8 (wrap64 (x10 + 1)))))) else (none)) else (none)) else (if x7 = true then ((marks_Check.f k x0).bind fun t165 => (some (t165 == 0))) else (some false))
def tailwaterlaw31_MarksBack.j2 : Nat → List Int → List Int → List Int → Bool → Int → List Int → Int → Bool → Option (Bool)
  | 0, _, _, _, _, _, _, _, _ => none
  | k + 1, x0, x1, x2, x7, x10, x11, x14, x113 => if x113 = true then (some false) else (tailwaterlaw31_MarksBack.l1 k x0 x1 x2 x7 x10 x11 x14 0)
def tailwaterlaw31_MarksBack.l1 : Nat → List Int → List Int → List Int → Bool → Int → List Int → Int → Int → Option (Bool)
  | 0, _, _, _, _, _, _, _, _ => none
  | k + 1, x0, x1, x2, x7, x10, x11, x14, x16 => if x16 < (x0.length : Int) then (if 0 ≤ x16 then (if x16 < (x11.length : Int) then (if x14 > (rd x11 x16) then (some false) else (if (rd x11 x16) < (rd x0 x16) then (some false) else (if 0 ≤ x10 then (if x10 < (x1.length : Int) then (if x16 = (rd x1 x10) then (tailwaterlaw31_MarksBack.l1 k x0 x1 x2 x7 x10 x11 x14 (wrap64 (x16 + 1))) else (if (rd x11 x16) = (rd x0 x16) then (tailwaterlaw31_MarksBack.l1 k x0 x1 x2 x7 x10 x11 x14 (wrap64 (x16 + 1))) else (some false))) else (none)) else (none)))) else (none)) else (none)) else (tailwaterlaw31_MarksBack.l0 k x11 x1 x2 x7 x14 (wrap64 (x10 + 1)))
end
def tailwaterlaw31_MarksBack.f (k : Nat) (l0 : List Int) (l1 : List Int) (l2 : List Int) : Option (Bool) := (tailwaterlaw31_alive.f k).bind fun t161 => ((tailwaterref31_Check.f k l0).bind fun t162 => (if t162 = 0 then (if (l1.length : Int) > 60 then (tailwaterlaw31_MarksBack.j0 k l0 l1 l2 t161 true) else (if (l2.length : Int) = (l1.length : Int) then (tailwaterlaw31_MarksBack.j0 k l0 l1 l2 t161 (!t161)) else (tailwaterlaw31_MarksBack.j0 k l0 l1 l2 t161 true))) else (tailwaterlaw31_MarksBack.j0 k l0 l1 l2 t161 true)))
theorem tailwaterlaw31_MarksBack.mono_l : ∀ k, (∀ y0 y1 y2 y3 y4, LeO (tailwaterlaw31_MarksBack.j0 k y0 y1 y2 y3 y4) (tailwaterlaw31_MarksBack.j0 (k + 1) y0 y1 y2 y3 y4)) ∧ (∀ y0 y1 y2 y3 y4 y5, LeO (tailwaterlaw31_MarksBack.l0 k y0 y1 y2 y3 y4 y5) (tailwaterlaw31_MarksBack.l0 (k + 1) y0 y1 y2 y3 y4 y5)) ∧ (∀ y0 y1 y2 y3 y4 y5 y6 y7, LeO (tailwaterlaw31_MarksBack.j2 k y0 y1 y2 y3 y4 y5 y6 y7) (tailwaterlaw31_MarksBack.j2 (k + 1) y0 y1 y2 y3 y4 y5 y6 y7)) ∧ (∀ y0 y1 y2 y3 y4 y5 y6 y7, LeO (tailwaterlaw31_MarksBack.l1 k y0 y1 y2 y3 y4 y5 y6 y7) (tailwaterlaw31_MarksBack.l1 (k + 1) y0 y1 y2 y3 y4 y5 y6 y7))
  | 0 => ⟨fun _ _ _ _ _ r h => by simp [tailwaterlaw31_MarksBack.j0] at h, fun _ _ _ _ _ _ r h => by simp [tailwaterlaw31_MarksBack.l0] at h, fun _ _ _ _ _ _ _ _ r h => by simp [tailwaterlaw31_MarksBack.j2] at h, fun _ _ _ _ _ _ _ _ r h => by simp [tailwaterlaw31_MarksBack.l1] at h⟩
  | k + 1 => by
    obtain ⟨ih0, ih1, ih2, ih3⟩ := tailwaterlaw31_MarksBack.mono_l k
    refine ⟨?_, ?_, ?_, ?_⟩
    · intro y0 y1 y2 y3 y4
      unfold tailwaterlaw31_MarksBack.j0
      repeat' first
      | (with_reducible exact ih0 _ _ _ _ _)
      | (with_reducible exact ih1 _ _ _ _ _ _)
      | (with_reducible exact ih2 _ _ _ _ _ _ _ _)
      | (with_reducible exact ih3 _ _ _ _ _ _ _ _)
      | (with_reducible exact marks_Check.mono _ _)
      | (with_reducible exact marks_Least.mono _ _)
      | (with_reducible exact marks_Raise.mono _ _ _ _)
      | (with_reducible exact tailwaterlaw31_alive.mono _)
      | (with_reducible exact tailwaterref31_Check.mono _ _)
      | (with_reducible exact LeO.refl _)
      | (with_reducible exact LeO.none _)
      | (with_reducible refine LeO.ite ?_ ?_)
      | (with_reducible refine LeO.bind ?_ (fun _ => ?_))
      | exact ih0 _ _ _ _ _
      | exact ih1 _ _ _ _ _ _
      | exact ih2 _ _ _ _ _ _ _ _
      | exact ih3 _ _ _ _ _ _ _ _
      | exact marks_Check.mono _ _
      | exact marks_Least.mono _ _
      | exact marks_Raise.mono _ _ _ _
      | exact tailwaterlaw31_alive.mono _
      | exact tailwaterref31_Check.mono _ _
      | exact LeO.none _
      | refine LeO.ite ?_ ?_
      | refine LeO.bind ?_ (fun _ => ?_)
    · intro y0 y1 y2 y3 y4 y5
      unfold tailwaterlaw31_MarksBack.l0
      repeat' first
      | (with_reducible exact ih0 _ _ _ _ _)
      | (with_reducible exact ih1 _ _ _ _ _ _)
      | (with_reducible exact ih2 _ _ _ _ _ _ _ _)
      | (with_reducible exact ih3 _ _ _ _ _ _ _ _)
      | (with_reducible exact marks_Check.mono _ _)
      | (with_reducible exact marks_Least.mono _ _)
      | (with_reducible exact marks_Raise.mono _ _ _ _)
      | (with_reducible exact tailwaterlaw31_alive.mono _)
      | (with_reducible exact tailwaterref31_Check.mono _ _)
      | (with_reducible exact LeO.refl _)
      | (with_reducible exact LeO.none _)
      | (with_reducible refine LeO.ite ?_ ?_)
      | (with_reducible refine LeO.bind ?_ (fun _ => ?_))
      | exact ih0 _ _ _ _ _
      | exact ih1 _ _ _ _ _ _
      | exact ih2 _ _ _ _ _ _ _ _
      | exact ih3 _ _ _ _ _ _ _ _
      | exact marks_Check.mono _ _
      | exact marks_Least.mono _ _
      | exact marks_Raise.mono _ _ _ _
      | exact tailwaterlaw31_alive.mono _
      | exact tailwaterref31_Check.mono _ _
      | exact LeO.none _
      | refine LeO.ite ?_ ?_
      | refine LeO.bind ?_ (fun _ => ?_)
    · intro y0 y1 y2 y3 y4 y5 y6 y7
      unfold tailwaterlaw31_MarksBack.j2
      repeat' first
      | (with_reducible exact ih0 _ _ _ _ _)
      | (with_reducible exact ih1 _ _ _ _ _ _)
      | (with_reducible exact ih2 _ _ _ _ _ _ _ _)
      | (with_reducible exact ih3 _ _ _ _ _ _ _ _)
      | (with_reducible exact marks_Check.mono _ _)
      | (with_reducible exact marks_Least.mono _ _)
      | (with_reducible exact marks_Raise.mono _ _ _ _)
      | (with_reducible exact tailwaterlaw31_alive.mono _)
      | (with_reducible exact tailwaterref31_Check.mono _ _)
      | (with_reducible exact LeO.refl _)
      | (with_reducible exact LeO.none _)
      | (with_reducible refine LeO.ite ?_ ?_)
      | (with_reducible refine LeO.bind ?_ (fun _ => ?_))
      | exact ih0 _ _ _ _ _
      | exact ih1 _ _ _ _ _ _
      | exact ih2 _ _ _ _ _ _ _ _
      | exact ih3 _ _ _ _ _ _ _ _
      | exact marks_Check.mono _ _
      | exact marks_Least.mono _ _
      | exact marks_Raise.mono _ _ _ _
      | exact tailwaterlaw31_alive.mono _
      | exact tailwaterref31_Check.mono _ _
      | exact LeO.none _
      | refine LeO.ite ?_ ?_
      | refine LeO.bind ?_ (fun _ => ?_)
    · intro y0 y1 y2 y3 y4 y5 y6 y7
      unfold tailwaterlaw31_MarksBack.l1
      repeat' first
      | (with_reducible exact ih0 _ _ _ _ _)
      | (with_reducible exact ih1 _ _ _ _ _ _)
      | (with_reducible exact ih2 _ _ _ _ _ _ _ _)
      | (with_reducible exact ih3 _ _ _ _ _ _ _ _)
      | (with_reducible exact marks_Check.mono _ _)
      | (with_reducible exact marks_Least.mono _ _)
      | (with_reducible exact marks_Raise.mono _ _ _ _)
      | (with_reducible exact tailwaterlaw31_alive.mono _)
      | (with_reducible exact tailwaterref31_Check.mono _ _)
      | (with_reducible exact LeO.refl _)
      | (with_reducible exact LeO.none _)
      | (with_reducible refine LeO.ite ?_ ?_)
      | (with_reducible refine LeO.bind ?_ (fun _ => ?_))
      | exact ih0 _ _ _ _ _
      | exact ih1 _ _ _ _ _ _
      | exact ih2 _ _ _ _ _ _ _ _
      | exact ih3 _ _ _ _ _ _ _ _
      | exact marks_Check.mono _ _
      | exact marks_Least.mono _ _
      | exact marks_Raise.mono _ _ _ _
      | exact tailwaterlaw31_alive.mono _
      | exact tailwaterref31_Check.mono _ _
      | exact LeO.none _
      | refine LeO.ite ?_ ?_
      | refine LeO.bind ?_ (fun _ => ?_)
theorem tailwaterlaw31_MarksBack.mono : ∀ a0 a1 a2 k, LeO (tailwaterlaw31_MarksBack.f k a0 a1 a2) (tailwaterlaw31_MarksBack.f (k + 1) a0 a1 a2) := by
  intro a0 a1 a2 k
  obtain ⟨ih0, ih1, ih2, ih3⟩ := tailwaterlaw31_MarksBack.mono_l k
  unfold tailwaterlaw31_MarksBack.f
  repeat' first
      | (with_reducible exact ih0 _ _ _ _ _)
      | (with_reducible exact ih1 _ _ _ _ _ _)
      | (with_reducible exact ih2 _ _ _ _ _ _ _ _)
      | (with_reducible exact ih3 _ _ _ _ _ _ _ _)
      | (with_reducible exact marks_Check.mono _ _)
      | (with_reducible exact marks_Least.mono _ _)
      | (with_reducible exact marks_Raise.mono _ _ _ _)
      | (with_reducible exact tailwaterlaw31_alive.mono _)
      | (with_reducible exact tailwaterref31_Check.mono _ _)
      | (with_reducible exact LeO.refl _)
      | (with_reducible exact LeO.none _)
      | (with_reducible refine LeO.ite ?_ ?_)
      | (with_reducible refine LeO.bind ?_ (fun _ => ?_))
      | exact ih0 _ _ _ _ _
      | exact ih1 _ _ _ _ _ _
      | exact ih2 _ _ _ _ _ _ _ _
      | exact ih3 _ _ _ _ _ _ _ _
      | exact marks_Check.mono _ _
      | exact marks_Least.mono _ _
      | exact marks_Raise.mono _ _ _ _
      | exact tailwaterlaw31_alive.mono _
      | exact tailwaterref31_Check.mono _ _
      | exact LeO.none _
      | refine LeO.ite ?_ ?_
      | refine LeO.bind ?_ (fun _ => ?_)

def tailwaterlaw31_MarksBack.Pure : Prop := ∀ (l0 : List Int) (l1 : List Int) (l2 : List Int), l0.length ≤ maxLen → l0.length * 8 ≤ 140737488351232 → (∀ x ∈ l0, (Lit.int .i64 x).wf = true) → l1.length ≤ maxLen → l1.length * 8 ≤ 140737488351232 → (∀ x ∈ l1, (Lit.int .i64 x).wf = true) → l2.length ≤ maxLen → l2.length * 8 ≤ 140737488351232 → (∀ x ∈ l2, (Lit.int .i64 x).wf = true) → ∃ k, tailwaterlaw31_MarksBack.f k l0 l1 l2 = some true

end Go.Proofs.Ytidpnehbmjfdlaa.Q
