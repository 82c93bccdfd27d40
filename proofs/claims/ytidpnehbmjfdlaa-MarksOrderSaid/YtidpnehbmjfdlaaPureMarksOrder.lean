/- The order in which two marks come does not matter; in the end each input has the greatest of its own. No condition but the machine's own bounds. -/
import Derived.Test.YtidpnehbmjfdlaaQ14
import Derived.Test.YtidpnehbmjfdlaaSpec
namespace Go.Proofs.Ytidpnehbmjfdlaa.Pure
open Go.RowKit Go.Proofs.Ytidpnehbmjfdlaa.Q Go.Proofs.YtidpnehbmjfdlaaW.PrintWords Go.Proofs.YtidpnehbmjfdlaaW.PrintLast
set_option linter.unusedVariables false
theorem ok_mx {x t : Int} (h : ok x = true) (ht : mk t = true) : ok (mx x t) = true := by
  unfold mx
  split
  · unfold ok; rw [ht, Bool.or_true]
  · exact h
theorem chk_raised {l : List Int} {a t : Int} (h : chk l = 0) (h0 : 0 ≤ a) (ha : a < l.length) (ht : mk t = true) : chk (raisedAt l a t) = 0 := by
  have hl := chk_len h
  refine chk_of (by rw [raised_len]; omega) (by rw [raised_len]; omega) (fun x hx => ?_)
  obtain ⟨n, rfl⟩ := Int.eq_ofNat_of_zero_le h0
  unfold raisedAt at hx
  rcases List.mem_or_eq_of_mem_set hx with h1 | rfl
  · exact chk_all h x h1
  · rw [rd_at (by omega)]
    exact ok_mx (chk_all h _ (List.getElem_mem _)) ht
theorem raise_fails {l : List Int} {a t : Int} (h : chk l = 0) (hn : ¬ (0 ≤ a ∧ a < l.length ∧ mk t = true)) : raiseOf l a t = ([], false, 2) := by
  unfold raiseOf; rw [if_pos h, if_neg hn]
theorem raise_goes {l : List Int} {a t : Int} (h : chk l = 0) (hn : 0 ≤ a ∧ a < l.length ∧ mk t = true) : raiseOf l a t = (raisedAt l a t, decide (least (raisedAt l a t) > least l), 0) := by
  unfold raiseOf; rw [if_pos h, if_pos hn]
theorem raised_get {l : List Int} {n : Nat} {t : Int} (j : Nat) (hj : j < l.length) : (raisedAt l (n : Int) t)[j]'(by rw [raised_len]; exact hj) = if j = n then mx l[j] t else l[j] := by
  unfold raisedAt
  simp only [Int.toNat_natCast, List.getElem_set]
  by_cases h : n = j
  · subst h; simp [rd_at hj]
  · rw [if_neg h, if_neg (fun e => h e.symm)]
theorem mx_swap (x t u : Int) : mx (mx x t) u = mx (mx x u) t := by
  unfold mx
  (repeat' split) <;> omega
theorem raised_two {l : List Int} {a b : Nat} {t u : Int} (j : Nat) (hj : j < l.length) : (raisedAt (raisedAt l (a : Int) t) (b : Int) u)[j]'(by rw [raised_len, raised_len]; exact hj) = if j = b then mx (if j = a then mx l[j] t else l[j]) u else (if j = a then mx l[j] t else l[j]) := by
  rw [raised_get j (by rw [raised_len]; exact hj), raised_get j hj]
theorem raised_swap (l : List Int) (a b : Nat) (t u : Int) : raisedAt (raisedAt l (a : Int) t) (b : Int) u = raisedAt (raisedAt l (b : Int) u) (a : Int) t := by
  refine List.ext_getElem (by simp [raised_len]) (fun j h1 h2 => ?_)
  have hj : j < l.length := by simpa [raised_len] using h1
  rw [raised_two j hj, raised_two j hj]
  by_cases ha : j = a
  · by_cases hb : j = b
    · rw [if_pos hb, if_pos ha, if_pos ha, if_pos hb, mx_swap]
    · rw [if_neg hb, if_pos ha, if_pos ha, if_neg hb]
  · by_cases hb : j = b
    · rw [if_pos hb, if_neg ha, if_neg ha, if_pos hb]
    · rw [if_neg hb, if_neg ha, if_neg ha, if_neg hb]
theorem order_loop (l : List Int) (hl : l.length ≤ 4) (a b : Nat) (t u : Int) (d : Nat) : ∀ j : Nat, l.length - j = d → j ≤ l.length → Ev (fun k => tailwaterlaw31_MarksOrder.l0 k l (a : Int) (b : Int) t u true (raisedAt (raisedAt l (a : Int) t) (b : Int) u) (j : Int)) true := by
  induction d with
  | zero =>
    intro j hd hj
    refine Ev.step (fun k => ?_) (Ev.now _)
    rw [tailwaterlaw31_MarksOrder.l0, if_neg (by omega)]
  | succ d ih =>
    intro j hd hj
    have hlt : j < l.length := by omega
    have hx : j < (raisedAt (raisedAt l (a : Int) t) (b : Int) u).length := by rw [raised_len, raised_len]; exact hlt
    refine Ev.step (f := fun k => tailwaterlaw31_MarksOrder.j4 k l (a : Int) (b : Int) t u true (raisedAt (raisedAt l (a : Int) t) (b : Int) u) (j : Int) (if j = a then mx l[j] t else l[j])) (fun k => ?_) ?_
    · rw [tailwaterlaw31_MarksOrder.l0, if_pos (by omega), if_pos (by omega), rd_at hlt]
      by_cases ha : j = a
      · rw [if_pos (by omega), if_pos ha]
      · rw [if_neg (by omega), if_neg ha]
    · refine Ev.step (fun k => ?_) (ih (j + 1) (by omega) (by omega))
      rw [tailwaterlaw31_MarksOrder.j4, rd_at hx, raised_two j hlt, wrap_next hlt (by omega)]
      by_cases hb : j = b
      · rw [if_pos (by omega), if_pos (by omega), if_pos (by omega), if_pos hb, if_pos rfl]
      · rw [if_neg (by omega), if_pos (by omega), if_pos (by omega), if_neg hb, if_pos rfl]
theorem MarksOrder : tailwaterlaw31_MarksOrder.Pure := by
  intro l a b t u _ _ _ _ _ _ _
  refine Ev.rounds (g := fun k => tailwaterlaw31_MarksOrder.f k l a b t u) ?_
  unfold tailwaterlaw31_MarksOrder.f
  refine Ev.bind alive_ev (Ev.bind (rcheck_ev l) ?_)
  by_cases h : chk l = 0
  · simp only [if_pos h]
    have hl := chk_len h
    by_cases h1 : 0 ≤ a ∧ a < l.length ∧ mk t = true
    · by_cases h2 : 0 ≤ b ∧ b < l.length ∧ mk u = true
      · obtain ⟨a, rfl⟩ := Int.eq_ofNat_of_zero_le h1.1
        obtain ⟨b, rfl⟩ := Int.eq_ofNat_of_zero_le h2.1
        refine Ev.step (f := fun k => (marks_Raise.f k l (a : Int) t).bind fun bt326 => ((marks_Raise.f k l (b : Int) u).bind fun bt331 => (if bt326.2.2 = 0 then (tailwaterlaw31_MarksOrder.j1 k l (a : Int) (b : Int) t u true bt326.1 bt331.1 (bt331.2.2 != 0)) else (tailwaterlaw31_MarksOrder.j1 k l (a : Int) (b : Int) t u true bt326.1 bt331.1 true)))) (fun k => ?_) ?_
        · rw [tailwaterlaw31_MarksOrder.j0, if_neg (by decide)]
        · have e1 := raise_goes h h1
          have e2 := raise_goes h h2
          refine Ev.bind (e1 ▸ raise_ev l (a : Int) t) (Ev.bind (e2 ▸ raise_ev l (b : Int) u) ?_)
          simp only [if_true]
          have c1 := chk_raised h h1.1 h1.2.1 h1.2.2
          have c2 := chk_raised h h2.1 h2.2.1 h2.2.2
          have e3 := raise_goes c1 (a := (b : Int)) (t := u) ⟨h2.1, by rw [raised_len]; exact h2.2.1, h2.2.2⟩
          have e4 := raise_goes c2 (a := (a : Int)) (t := t) ⟨h1.1, by rw [raised_len]; exact h1.2.1, h1.2.2⟩
          refine Ev.step (f := fun k => (marks_Raise.f k (raisedAt l (a : Int) t) (b : Int) u).bind fun bt336 => ((marks_Raise.f k (raisedAt l (b : Int) u) (a : Int) t).bind fun bt341 => (if bt336.2.2 = 0 then (if bt341.2.2 = 0 then ((tailwaterref31_Same.f k bt336.1 bt341.1).bind fun t346 => (tailwaterlaw31_MarksOrder.j2 k l (a : Int) (b : Int) t u true bt336.1 (!t346))) else (tailwaterlaw31_MarksOrder.j2 k l (a : Int) (b : Int) t u true bt336.1 true)) else (tailwaterlaw31_MarksOrder.j2 k l (a : Int) (b : Int) t u true bt336.1 true)))) (fun k => ?_) ?_
          · rw [tailwaterlaw31_MarksOrder.j1, if_neg (by decide)]
          · refine Ev.bind (e3 ▸ raise_ev (raisedAt l (a : Int) t) (b : Int) u) (Ev.bind (e4 ▸ raise_ev (raisedAt l (b : Int) u) (a : Int) t) ?_)
            simp only [if_true]
            rw [raised_swap l b a u t]
            refine Ev.bind (same_ev _ (by rw [raised_len, raised_len]; omega)) ?_
            refine Ev.step (fun k => ?_) (order_loop l hl.2 a b t u _ 0 rfl (by omega))
            rw [tailwaterlaw31_MarksOrder.j2, if_neg (by decide)]; rfl
      · refine Ev.step (f := fun k => (marks_Raise.f k l a t).bind fun bt326 => ((marks_Raise.f k l b u).bind fun bt331 => (if bt326.2.2 = 0 then (tailwaterlaw31_MarksOrder.j1 k l a b t u true bt326.1 bt331.1 (bt331.2.2 != 0)) else (tailwaterlaw31_MarksOrder.j1 k l a b t u true bt326.1 bt331.1 true)))) (fun k => ?_) ?_
        · rw [tailwaterlaw31_MarksOrder.j0, if_neg (by decide)]
        · have e1 := raise_goes h h1
          have e2 := raise_fails h h2
          refine Ev.bind (e1 ▸ raise_ev l a t) (Ev.bind (e2 ▸ raise_ev l b u) ?_)
          simp only [if_true]
          refine Ev.step (fun k => ?_) (Ev.now _)
          rw [tailwaterlaw31_MarksOrder.j1, if_pos (by decide)]
    · refine Ev.step (f := fun k => (marks_Raise.f k l a t).bind fun bt326 => ((marks_Raise.f k l b u).bind fun bt331 => (if bt326.2.2 = 0 then (tailwaterlaw31_MarksOrder.j1 k l a b t u true bt326.1 bt331.1 (bt331.2.2 != 0)) else (tailwaterlaw31_MarksOrder.j1 k l a b t u true bt326.1 bt331.1 true)))) (fun k => ?_) ?_
      · rw [tailwaterlaw31_MarksOrder.j0, if_neg (by decide)]
      · have e1 := raise_fails h h1
        refine Ev.bind (e1 ▸ raise_ev l a t) (Ev.bind (raise_ev l b u) ?_)
        simp only [if_neg (show ¬ (2 : Int) = 0 by decide)]
        refine Ev.step (fun k => ?_) (Ev.now _)
        rw [tailwaterlaw31_MarksOrder.j1, if_pos rfl]
  · simp only [if_neg h]
    refine Ev.step (fun k => ?_) (Ev.now _)
    rw [tailwaterlaw31_MarksOrder.j0, if_pos rfl]
end Go.Proofs.Ytidpnehbmjfdlaa.Pure
