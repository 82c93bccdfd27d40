/- The least is Lowest as long as an input has no mark, and Final just if all are. No condition but the machine's own bounds. -/
import Derived.Test.YtidpnehbmjfdlaaQ15
import Derived.Test.YtidpnehbmjfdlaaSpec
namespace Go.Proofs.Ytidpnehbmjfdlaa.Pure
open Go.RowKit Go.Proofs.Ytidpnehbmjfdlaa.Q Go.Proofs.YtidpnehbmjfdlaaW.PrintWords Go.Proofs.YtidpnehbmjfdlaaW.PrintLast
set_option linter.unusedVariables false
theorem ok_bounds {x : Int} (h : ok x = true) : -9223372036854775808 ≤ x ∧ x ≤ 9223372036854775807 := by
  unfold ok mk tm at h
  simp only [Bool.or_eq_true, Bool.and_eq_true, beq_iff_eq, decide_eq_true_eq] at h
  omega
theorem ends_low (l : List Int) : ∀ m, -9223372036854775808 ≤ m → (∀ x ∈ l, -9223372036854775808 ≤ x) → (minFrom m l = -9223372036854775808 ↔ (m = -9223372036854775808 ∨ ∃ x ∈ l, x = -9223372036854775808)) := by
  induction l with
  | nil => intro m _ _; simp [minFrom]
  | cons y ys ih =>
    intro m hm hl
    have hy := hl y (by simp)
    show minFrom (mn m y) ys = _ ↔ _
    rw [ih (mn m y) (by unfold mn; split <;> omega) (fun x hx => hl x (by simp [hx]))]
    constructor
    · rintro (h | ⟨x, hx, rfl⟩)
      · unfold mn at h
        split at h
        · first | exact .inr ⟨y, by simp, h⟩ | exact .inl h
        · first | exact .inl h | exact .inr ⟨y, by simp, h⟩
      · exact .inr ⟨_, by simp [hx], rfl⟩
    · rintro (h | ⟨x, hx, h⟩)
      · left; unfold mn; split <;> omega
      · rcases List.mem_cons.1 hx with rfl | hx
        · left; unfold mn; split <;> omega
        · exact .inr ⟨x, hx, h⟩
theorem ends_fin (l : List Int) : ∀ m, m ≤ 9223372036854775807 → (∀ x ∈ l, x ≤ 9223372036854775807) → (minFrom m l = 9223372036854775807 ↔ (m = 9223372036854775807 ∧ ∀ x ∈ l, x = 9223372036854775807)) := by
  induction l with
  | nil => intro m _ _; simp [minFrom]
  | cons y ys ih =>
    intro m hm hl
    have hy := hl y (by simp)
    show minFrom (mn m y) ys = _ ↔ _
    rw [ih (mn m y) (by unfold mn; split <;> omega) (fun x hx => hl x (by simp [hx]))]
    constructor
    · rintro ⟨h, h2⟩
      have h3 : m = 9223372036854775807 ∧ y = 9223372036854775807 := by unfold mn at h; split at h <;> omega
      exact ⟨h3.1, fun x hx => by rcases List.mem_cons.1 hx with rfl | hx; exact h3.2; exact h2 x hx⟩
    · rintro ⟨h, h2⟩
      have hy2 := h2 y (by simp)
      exact ⟨by unfold mn; split <;> omega, fun x hx => h2 x (by simp [hx])⟩
theorem ends_loop (l : List Int) (hl : l.length ≤ 4) (n : Int) (d : Nat) : ∀ (j : Nat) (p q : Bool), l.length - j = d → j ≤ l.length →
    ((n == -9223372036854775808) == (p || (l.drop j).any (· == -9223372036854775808))) = true → ((n == 9223372036854775807) == (q && (l.drop j).all (· == 9223372036854775807))) = true →
    Ev (fun k => tailwaterlaw31_MarksEnds.l0 k l true n 0 p q (j : Int)) true := by
  induction d with
  | zero =>
    intro j p q hd hj h1 h2
    obtain rfl : j = l.length := by omega
    rw [List.drop_length, List.any_nil, Bool.or_false] at h1
    rw [List.drop_length, List.all_nil, Bool.and_true] at h2
    refine Ev.step (fun k => ?_) (Ev.now _)
    rw [tailwaterlaw31_MarksEnds.l0, if_neg (by omega), if_pos rfl, if_pos rfl, if_pos h1, h2]
  | succ d ih =>
    intro j p q hd hj h1 h2
    have hlt : j < l.length := by omega
    rw [List.drop_eq_getElem_cons hlt, List.any_cons, ← Bool.or_assoc] at h1
    rw [List.drop_eq_getElem_cons hlt, List.all_cons, ← Bool.and_assoc] at h2
    refine Ev.step (fun k => ?_) (ih (j + 1) _ _ (by omega) (by omega) h1 h2)
    rw [tailwaterlaw31_MarksEnds.l0, if_pos (by omega), rd_at hlt, wrap_next hlt (by omega)]
    have h0 : (0 : Int) ≤ (j : Int) := by omega
    cases p <;> cases q <;> simp [h0]
theorem MarksEnds : tailwaterlaw31_MarksEnds.Pure := by
  intro l _ _ _
  refine Ev.rounds (g := fun k => tailwaterlaw31_MarksEnds.f k l) ?_
  unfold tailwaterlaw31_MarksEnds.f
  refine Ev.bind alive_ev (Ev.bind (rcheck_ev l) ?_)
  by_cases h : chk l = 0
  · simp only [if_pos h]
    have hl := chk_len h
    have ha := chk_all h
    refine Ev.step (f := fun k => (marks_Least.f k l).bind fun bt352 => tailwaterlaw31_MarksEnds.l0 k l true bt352.1 bt352.2 false true 0) (fun k => ?_) ?_
    · rw [tailwaterlaw31_MarksEnds.j0, if_neg (by decide)]
    · refine Ev.bind (least_ev l) ?_
      have e0 : Q.leastOf l = (least l, 0) := by unfold Q.leastOf; rw [if_pos h]
      rw [e0]
      have e1 : ((least l == -9223372036854775808) == (false || (l.drop 0).any (· == -9223372036854775808))) = true := by
        cases l with
        | nil => simp at hl
        | cons x xs =>
          have := ends_low xs x (ok_bounds (ha x (by simp))).1 (fun y hy => (ok_bounds (ha y (by simp [hy]))).1)
          rw [beq_iff_eq, Bool.eq_iff_iff]
          simp [least, this]
      have e2 : ((least l == 9223372036854775807) == (true && (l.drop 0).all (· == 9223372036854775807))) = true := by
        cases l with
        | nil => simp at hl
        | cons x xs =>
          have := ends_fin xs x (ok_bounds (ha x (by simp))).2 (fun y hy => (ok_bounds (ha y (by simp [hy]))).2)
          rw [beq_iff_eq, Bool.eq_iff_iff]
          simp [least, this]
      exact ends_loop l hl.2 (least l) _ 0 false true rfl (by omega) e1 e2
  · simp only [if_neg h]
    refine Ev.step (fun k => ?_) (Ev.now _)
    rw [tailwaterlaw31_MarksEnds.j0, if_pos rfl]
end Go.Proofs.Ytidpnehbmjfdlaa.Pure
