/- Raising marks one after the other never lets the least fall, changes no other input's mark, and tells truly when the least grew. No condition but the machine's own bounds. -/
import Derived.Test.YtidpnehbmjfdlaaMBack0
import Derived.Test.YtidpnehbmjfdlaaSpec
namespace Go.Proofs.Ytidpnehbmjfdlaa.Pure
open Go.RowKit Go.Proofs.Ytidpnehbmjfdlaa.Q Go.Proofs.YtidpnehbmjfdlaaW.PrintWords Go.Proofs.YtidpnehbmjfdlaaW.PrintLast
set_option linter.unusedVariables false
namespace Back
theorem ok_mx {x t : Int} (h : ok x = true) (ht : mk t = true) : ok (mx x t) = true := by
  unfold mx
  split
  · unfold ok; rw [ht, Bool.or_true]
  · exact h
theorem mx_ge (x t : Int) : x ≤ mx x t := by unfold mx; split <;> omega
theorem chk_raised {l : List Int} {a t : Int} (h : chk l = 0) (h0 : 0 ≤ a) (ha : a < l.length) (ht : mk t = true) : chk (raisedAt l a t) = 0 := by
  have hl := chk_len h
  refine chk_of (by rw [raised_len]; omega) (by rw [raised_len]; omega) (fun x hx => ?_)
  obtain ⟨n, rfl⟩ := Int.eq_ofNat_of_zero_le h0
  unfold raisedAt at hx
  rcases List.mem_or_eq_of_mem_set hx with h1 | rfl
  · exact chk_all h x h1
  · rw [rd_at (by omega)]
    exact ok_mx (chk_all h _ (List.getElem_mem _)) ht
theorem raised_get {l : List Int} {n : Nat} {t : Int} (j : Nat) (hj : j < l.length) : (raisedAt l (n : Int) t)[j]'(by rw [raised_len]; exact hj) = if j = n then mx l[j] t else l[j] := by
  unfold raisedAt
  simp only [Int.toNat_natCast, List.getElem_set]
  by_cases h : n = j
  · subst h; simp [rd_at hj]
  · rw [if_neg h, if_neg (fun e => h e.symm)]
theorem min_le (l : List Int) : ∀ m, minFrom m l ≤ m ∧ ∀ x ∈ l, minFrom m l ≤ x := by
  induction l with
  | nil => intro m; exact ⟨Int.le_refl _, by simp⟩
  | cons y ys ih =>
    intro m
    have h := ih (mn m y)
    have h1 : mn m y ≤ m ∧ mn m y ≤ y := by unfold mn; split <;> omega
    refine ⟨Int.le_trans h.1 h1.1, fun x hx => ?_⟩
    rcases List.mem_cons.1 hx with rfl | hx
    · exact Int.le_trans h.1 h1.2
    · exact h.2 x hx
theorem min_mem (l : List Int) : ∀ m, minFrom m l = m ∨ minFrom m l ∈ l := by
  induction l with
  | nil => intro m; exact .inl rfl
  | cons y ys ih =>
    intro m
    have h1 : mn m y = m ∨ mn m y = y := by unfold mn; split <;> omega
    rcases ih (mn m y) with h | h
    · rcases h1 with e | e
      · exact .inl (h.trans e)
      · exact .inr (List.mem_cons.2 (.inl (h.trans e)))
    · exact .inr (List.mem_cons.2 (.inr h))
theorem least_le {l : List Int} {x : Int} (hx : x ∈ l) : least l ≤ x := by
  cases l with
  | nil => simp at hx
  | cons y ys =>
    rcases List.mem_cons.1 hx with rfl | hx
    · exact (min_le ys x).1
    · exact (min_le ys y).2 x hx
theorem least_mem {l : List Int} (hl : 1 ≤ l.length) : least l ∈ l := by
  cases l with
  | nil => simp at hl
  | cons y ys =>
    rcases min_mem ys y with h | h
    · exact List.mem_cons.2 (.inl h)
    · exact List.mem_cons.2 (.inr h)
theorem least_grows {l r : List Int} (h1 : 1 ≤ l.length) (hr : r.length = l.length) (h : ∀ j (hj : j < l.length), l[j] ≤ r[j]) : least l ≤ least r := by
  obtain ⟨j, hj, e⟩ := List.mem_iff_getElem.1 (least_mem (l := r) (by omega))
  rw [← e]
  exact Int.le_trans (least_le (List.getElem_mem (by omega))) (h j (by omega))
theorem inner (l l1 l2 r : List Int) (i : Nat) (a : Int) (hi : i < l1.length) (ha : rd l1 (i : Int) = a) (h4 : l.length ≤ 4) (hr : r.length = l.length) (hm : ∀ x ∈ r, least r ≤ x) (hg : ∀ j (hj : j < l.length), l[j] ≤ r[j]) (he : ∀ j (hj : j < l.length), (j : Int) ≠ a → r[j] = l[j])
    (K : Ev (fun k => tailwaterlaw31_MarksBack.l0 k r l1 l2 true (least r) (wrap64 ((i : Int) + 1))) true) (d : Nat) : ∀ j : Nat, l.length - j = d → j ≤ l.length →
    Ev (fun k => tailwaterlaw31_MarksBack.l1 k l l1 l2 true (i : Int) r (least r) (j : Int)) true := by
  induction d with
  | zero =>
    intro j hd hj
    refine Ev.step (fun k => ?_) K
    rw [tailwaterlaw31_MarksBack.l1, if_neg (by omega)]
  | succ d ih =>
    intro j hd hj
    have hlt : j < l.length := by omega
    have hlr : j < r.length := by omega
    refine Ev.step (fun k => ?_) (ih (j + 1) (by omega) (by omega))
    have q1 := hm _ (List.getElem_mem hlr)
    have q2 := hg j hlt
    have q3 := he j hlt
    rw [tailwaterlaw31_MarksBack.l1, if_pos (by omega), if_pos (by omega), if_pos (by omega), rd_at hlt, rd_at hlr, ha, wrap_next hlt (by omega), if_neg (by omega), if_neg (by omega), if_pos (by omega), if_pos (by omega)]
    by_cases e : (j : Int) = a
    · rw [if_pos e]
    · rw [if_neg e, if_pos (q3 e)]
set_option maxHeartbeats 4000000 in
theorem loop (l1 l2 : List Int) (h2 : l2.length = l1.length) (h60 : l1.length ≤ 60) (d : Nat) : ∀ (i : Nat) (l : List Int), l1.length - i = d → i ≤ l1.length → chk l = 0 →
    Ev (fun k => tailwaterlaw31_MarksBack.l0 k l l1 l2 true (least l) (i : Int)) true := by
  induction d with
  | zero =>
    intro i l hd hi h
    refine Ev.step (f := fun k => (marks_Check.f k l).bind fun t165 => some (t165 == 0)) (fun k => ?_) ?_
    · rw [tailwaterlaw31_MarksBack.l0, if_neg (by omega), if_pos rfl]
    · refine Ev.bind (check_ev l) ?_
      rw [h]; exact Ev.now _
  | succ d ih =>
    intro i l hd hi h
    have hlt : i < l1.length := by omega
    have hd' : l1.length - (i + 1) = d := by omega
    have hl := chk_len h
    refine Ev.step (f := fun k => (marks_Raise.f k l (rd l1 (i : Int)) (rd l2 (i : Int))).bind fun bt168 => (if bt168.2.2 = 0 then ((marks_Least.f k bt168.1).bind fun bt177 => (if bt177.2 = 0 then (if bt177.1 < least l then (tailwaterlaw31_MarksBack.j2 k l l1 l2 true (i : Int) bt168.1 bt177.1 true) else (if (bt168.2.1 != (decide (bt177.1 > least l))) = true then (tailwaterlaw31_MarksBack.j2 k l l1 l2 true (i : Int) bt168.1 bt177.1 true) else (tailwaterlaw31_MarksBack.j2 k l l1 l2 true (i : Int) bt168.1 bt177.1 ((bt168.1.length : Int) != (l.length : Int))))) else (tailwaterlaw31_MarksBack.j2 k l l1 l2 true (i : Int) bt168.1 bt177.1 true))) else (if (rd l1 (i : Int)) ≥ 0 then (if (rd l1 (i : Int)) < (l.length : Int) then ((tailwaterref25_Mark.f (rd l2 (i : Int))).bind fun t176 => (if t176 = true then (some false) else (tailwaterlaw31_MarksBack.l0 k l l1 l2 true (least l) (wrap64 ((i : Int) + 1))))) else (tailwaterlaw31_MarksBack.l0 k l l1 l2 true (least l) (wrap64 ((i : Int) + 1)))) else (tailwaterlaw31_MarksBack.l0 k l l1 l2 true (least l) (wrap64 ((i : Int) + 1)))))) (fun k => ?_) ?_
    · rw [tailwaterlaw31_MarksBack.l0, if_pos (by omega), if_pos (by omega), if_pos (by omega)]
    · generalize hA : rd l1 (i : Int) = a
      generalize hT : rd l2 (i : Int) = t
      have hw := wrap_next hlt (show l1.length ≤ 9223372036854775807 by omega)
      by_cases hg : 0 ≤ a ∧ a < l.length ∧ mk t = true
      · have e1 : raiseOf l a t = (raisedAt l a t, decide (least (raisedAt l a t) > least l), 0) := by unfold raiseOf; rw [if_pos h, if_pos hg]
        have e3 := raise_ev l a t
        rw [e1] at e3
        refine Ev.bind e3 ?_
        simp only [if_true]
        have c1 := chk_raised h hg.1 hg.2.1 hg.2.2
        have e2 : Q.leastOf (raisedAt l a t) = (least (raisedAt l a t), 0) := by unfold Q.leastOf; rw [if_pos c1]
        refine Ev.bind (e2 ▸ least_ev (raisedAt l a t)) ?_
        simp only [if_true]
        have hrl := raised_len l a t
        obtain ⟨n, rfl⟩ := Int.eq_ofNat_of_zero_le hg.1
        have hge : ∀ j (hj : j < l.length), l[j] ≤ (raisedAt l (n : Int) t)[j]'(by rw [raised_len]; exact hj) := by
          intro j hj
          rw [raised_get j hj]
          split
          · exact mx_ge _ _
          · exact Int.le_refl _
        have hlg := least_grows hl.1 hrl hge
        simp only [if_neg (show ¬ least (raisedAt l (n : Int) t) < least l by omega), bne_self_eq_false, if_neg (show ¬ (false = true) by decide)]
        refine Ev.step (f := fun k => tailwaterlaw31_MarksBack.l1 k l l1 l2 true (i : Int) (raisedAt l (n : Int) t) (least (raisedAt l (n : Int) t)) 0) (fun k => ?_) ?_
        · rw [tailwaterlaw31_MarksBack.j2, if_neg (by simp [raised_len])]
        · refine inner l l1 l2 _ i n hlt hA hl.2 hrl (fun x hx => least_le hx) hge (fun j hj hne => ?_) ?_ _ 0 rfl (by omega)
          · rw [raised_get j hj, if_neg (by omega)]
          · rw [hw]; exact ih (i + 1) _ hd' hlt c1
      · have e1 : raiseOf l a t = ([], false, 2) := by unfold raiseOf; rw [if_pos h, if_neg hg]
        have e3 := raise_ev l a t
        rw [e1] at e3
        refine Ev.bind e3 ?_
        dsimp only
        simp only [eq_false (show ¬ (2 : Int) = 0 by decide), if_false]
        have hn := ih (i + 1) l hd' hlt h
        rw [hw]
        by_cases g0 : a ≥ 0
        · simp only [if_pos g0]
          by_cases g1 : a < l.length
          · simp only [if_pos g1]
            have g2 : mk t = false := by
              cases hm : mk t
              · rfl
              · exact absurd ⟨g0, g1, hm⟩ hg
            rw [mark25_eq, g2]
            exact hn
          · simp only [if_neg g1]; exact hn
        · simp only [if_neg g0]; exact hn
end Back
set_option maxHeartbeats 4000000 in
theorem MarksBack : tailwaterlaw31_MarksBack.Pure := by
  intro l l1 l2 _ _ _ _ _ _ _ _ _
  refine Ev.rounds (g := fun k => tailwaterlaw31_MarksBack.f k l l1 l2) ?_
  unfold tailwaterlaw31_MarksBack.f
  refine Ev.bind alive_ev (Ev.bind (rcheck_ev l) ?_)
  have ht : Ev (fun k => tailwaterlaw31_MarksBack.j0 k l l1 l2 true true) true := by
    refine Ev.step (fun k => ?_) (Ev.now _)
    rw [tailwaterlaw31_MarksBack.j0, if_pos rfl]
  by_cases h : chk l = 0
  · simp only [if_pos h]
    by_cases h60 : (l1.length : Int) > 60
    · simp only [if_pos h60]; exact ht
    · simp only [if_neg h60]
      by_cases h2 : (l2.length : Int) = (l1.length : Int)
      · simp only [if_pos h2]
        refine Ev.step (f := fun k => (marks_Least.f k l).bind fun bt163 => (if bt163.2 = 0 then (tailwaterlaw31_MarksBack.l0 k l l1 l2 true bt163.1 0) else (some false))) (fun k => ?_) ?_
        · rw [tailwaterlaw31_MarksBack.j0, if_neg (by decide)]
        · have e2 : Q.leastOf l = (least l, 0) := by unfold Q.leastOf; rw [if_pos h]
          refine Ev.bind (e2 ▸ least_ev l) ?_
          simp only [if_true]
          exact Back.loop l1 l2 (by omega) (by omega) _ 0 l rfl (by omega) h
      · simp only [if_neg h2]; exact ht
  · simp only [if_neg h]; exact ht
end Go.Proofs.Ytidpnehbmjfdlaa.Pure
