/- Whether a record is late is told by the marks before it alone. No condition but the machine's bound on lengths. -/
import Derived.Test.YtdmaedaobjcocaaQ8
import Derived.Test.YtdmaedaobjcocaaPlain
namespace Go.Proofs.Ytdmaedaobjcocaa.Q
open Go.RowKit Go.Proofs.YtdmaedaobjcocaaW.PrintWords Go.Proofs.YtdmaedaobjcocaaW.PrintLast Go.Proofs.YtdmaedaobjcocaaW.PrintMore
set_option linter.unusedVariables false
set_option linter.unusedSimpArgs false
def marksOf (l : List S40) : List S40 := l.filter (fun x => x.f0)
theorem marks_snoc_mark {l : List S40} {x : S40} (h : x.f0 = true) : marksOf (l ++ [x]) = marksOf l ++ [x] := by unfold marksOf; rw [List.filter_append]; simp [h]
theorem marks_snoc_rec {l : List S40} {x : S40} (h : ¬ x.f0 = true) : marksOf (l ++ [x]) = marksOf l := by unfold marksOf; rw [List.filter_append]; simp [h]
theorem marks_none (b : Bool) (l : List S40) : ∀ m, recFrom b m (marksOf l) = [] := by
  induction l with
  | nil => intro m; rfl
  | cons x xs ih =>
    intro m
    unfold marksOf
    by_cases h : x.f0 = true
    · rw [List.filter_cons_of_pos h, recFrom, if_pos h]; exact ih _
    · rw [List.filter_cons_of_neg h]; exact ih m
theorem marks_mark (l : List S40) : ∀ m, markFrom m (marksOf l) = markFrom m l := by
  induction l with
  | nil => intro m; rfl
  | cons x xs ih =>
    intro m
    unfold marksOf
    by_cases h : x.f0 = true
    · rw [List.filter_cons_of_pos h, mark_cons, mark_cons]; exact ih _
    · rw [List.filter_cons_of_neg h, mark_cons, show Raised m x = m by unfold Raised; rw [if_neg h]]; exact ih m
theorem own_one (b : Bool) (l : List S40) (x : S40) (h : ¬ x.f0 = true) : recFrom b low (marksOf l ++ [x]) = if (decide (x.f2.f1 < markFrom low l) == b) = true then [x.f2] else [] := by
  rw [recFrom_append, marks_none, marks_mark, List.nil_append, recFrom, if_neg h]
  split <;> rfl
theorem rec_take (b : Bool) (l : List S40) (j : Nat) (hj : j < l.length) (h : ¬ l[j].f0 = true) (h2 : (decide (l[j].f2.f1 < markFrom low (l.take j)) == b) = true) : recFrom b low (l.take (j + 1)) = recFrom b low (l.take j) ++ [l[j].f2] := by
  rw [List.take_succ_eq_append_getElem hj, recFrom_append, recFrom, if_neg h, if_pos h2]; rfl
theorem rec_take_not (b : Bool) (l : List S40) (j : Nat) (hj : j < l.length) (h : ¬ l[j].f0 = true) (h2 : ¬ (decide (l[j].f2.f1 < markFrom low (l.take j)) == b) = true) : recFrom b low (l.take (j + 1)) = recFrom b low (l.take j) := by
  rw [List.take_succ_eq_append_getElem hj, recFrom_append, recFrom, if_neg h, if_neg h2]; simp [recFrom]
theorem rec_take_mark (b : Bool) (l : List S40) (j : Nat) (hj : j < l.length) (h : l[j].f0 = true) : recFrom b low (l.take (j + 1)) = recFrom b low (l.take j) := by
  rw [List.take_succ_eq_append_getElem hj, recFrom_append, recFrom, if_pos h]; simp [recFrom]
theorem rec_at (b : Bool) (l : List S40) (j : Nat) (hj : j < l.length) (h : ¬ l[j].f0 = true) (h2 : (decide (l[j].f2.f1 < markFrom low (l.take j)) == b) = true) :
    (recFrom b low (l.take j)).length < (recFrom b low l).length ∧ rd_T38 (recFrom b low l) ((recFrom b low (l.take j)).length : Int) = l[j].f2 := by
  have e : recFrom b low l = recFrom b low (l.take j) ++ l[j].f2 :: recFrom b (markFrom low (l.take j)) (l.drop (j + 1)) := by
    conv => lhs; rw [← List.take_append_drop j l, recFrom_append, List.drop_eq_getElem_cons hj, recFrom, if_neg h, if_pos h2]
  have hl : (recFrom b low (l.take j)).length < (recFrom b low l).length := by rw [e]; simp
  refine ⟨hl, ?_⟩
  rw [rd38 hl]
  simp only [e]
  rw [List.getElem_append_right (by omega)]
  simp
theorem own_loop (l : List S40) (hg : errOf l = 0) (d : Nat) : ∀ j : Nat, l.length - j = d → j ≤ l.length →
    Ev (fun k => tailwaterlaw20_LateOwn.l0 k l true (recFrom false low l) (recFrom true low l) ((recFrom false low (l.take j)).length : Int) ((recFrom true low (l.take j)).length : Int) (marksOf (l.take j)) (j : Int)) true := by
  have hz := errOf_zero.1 hg
  induction d with
  | zero =>
    intro j hd hj
    obtain rfl : j = l.length := by omega
    refine Ev.step (fun k => ?_) (Ev.now _)
    rw [tailwaterlaw20_LateOwn.l0, if_neg (by omega), if_pos rfl, List.take_length, if_pos rfl]; simp
  | succ d ih =>
    intro j hd hj
    have hlt : j < l.length := by omega
    have hsn : l.take (j + 1) = l.take j ++ [l[j]] := List.take_succ_eq_append_getElem hlt
    have hml : (marksOf (l.take j)).length ≤ j := Nat.le_trans (List.length_filter_le _ _) (by simp; omega)
    have hr0 := recFrom_length false (l.take j) low
    have hr1 := recFrom_length true (l.take j) low
    have htl : (l.take j).length ≤ 60 := by simp; omega
    by_cases h : l[j].f0 = true
    · have := ih (j + 1) (by omega) (by omega)
      rw [rec_take_mark false l j hlt h, rec_take_mark true l j hlt h, hsn, marks_snoc_mark h] at this
      refine Ev.step (fun k => ?_) this
      rw [tailwaterlaw20_LateOwn.l0, if_pos (by omega), if_pos (by omega), rd40 hlt, if_pos h, Option.bind_some, if_pos (by simp; omega), wrap_next hlt (by omega)]
    · have hgo : errOf (marksOf (l.take j) ++ [l[j]]) = 0 := errOf_zero.2 ⟨by simp; omega, fun x hx => by
        rcases List.mem_append.1 hx with hx | hx
        · exact hz.2 x (List.mem_of_mem_take (List.mem_filter.1 hx).1)
        · rw [List.mem_singleton.1 hx]; exact hz.2 _ (List.getElem_mem hlt)⟩
      have hs := splitOf_good hgo
      rw [own_one false _ _ h, own_one true _ _ h] at hs
      refine Ev.step (f := fun k => (late_Split.f k (marksOf (l.take j) ++ [l[j]])).bind fun bt382 => (if bt382.2.2 = 0 then (tailwaterlaw20_LateOwn.j2 k l true (recFrom false low l) (recFrom true low l) ((recFrom false low (l.take j)).length : Int) ((recFrom true low (l.take j)).length : Int) (marksOf (l.take j)) (j : Int) bt382.1 ((wrap64 ((bt382.1.length : Int) + (bt382.2.1.length : Int))) != 1)) else (tailwaterlaw20_LateOwn.j2 k l true (recFrom false low l) (recFrom true low l) ((recFrom false low (l.take j)).length : Int) ((recFrom true low (l.take j)).length : Int) (marksOf (l.take j)) (j : Int) bt382.1 true))) (fun k => ?_) ?_
      · rw [tailwaterlaw20_LateOwn.l0, if_pos (by omega), if_pos (by omega), rd40 hlt, if_neg h, Option.bind_some, if_pos (by simp; omega)]
        simp only [Option.bind_some, List.nil_append]
        rw [if_pos (by simp; omega)]
      · refine Ev.bind (hs ▸ late_split_ev _ (by simp; omega)) ?_
        simp only [if_true]
        by_cases h2 : l[j].f2.f1 < markFrom low (l.take j)
        · have ht : (decide (l[j].f2.f1 < markFrom low (l.take j)) == true) = true := by simp [h2]
          have hf : ¬ (decide (l[j].f2.f1 < markFrom low (l.take j)) == false) = true := by simp [h2]
          obtain ⟨hb, he⟩ := rec_at true l j hlt h ht
          simp only [if_neg hf, if_pos ht]
          have := ih (j + 1) (by omega) (by omega)
          rw [rec_take_not false l j hlt h hf, rec_take true l j hlt h ht, hsn, marks_snoc_rec h] at this
          refine Ev.step (fun k => ?_) this
          rw [tailwaterlaw20_LateOwn.j2, if_neg (show ¬ (wrap64 ((([] : List S38).length : Int) + (([l[j].f2] : List S38).length : Int)) != 1) = true by simp [wrap64]), if_neg (show ¬ (([] : List S38).length : Int) = 1 by simp only [List.length_nil]; decide), if_neg (by omega), if_pos (by omega), if_pos (by omega), if_pos (by omega), if_pos (by omega), he, rd40 hlt, if_neg (by simp), wrap_next hlt (by omega)]
          rw [show wrap64 (((recFrom true low (l.take j)).length : Int) + 1) = (((recFrom true low (l.take j)) ++ [l[j].f2]).length : Int) by unfold wrap64; simp; omega]
        · have ht : ¬ (decide (l[j].f2.f1 < markFrom low (l.take j)) == true) = true := by simp [h2]
          have hf : (decide (l[j].f2.f1 < markFrom low (l.take j)) == false) = true := by simp [h2]
          obtain ⟨hb, he⟩ := rec_at false l j hlt h hf
          simp only [if_neg ht, if_pos hf]
          have := ih (j + 1) (by omega) (by omega)
          rw [rec_take false l j hlt h hf, rec_take_not true l j hlt h ht, hsn, marks_snoc_rec h] at this
          refine Ev.step (f := fun k => tailwaterlaw20_LateOwn.j3 k l true (recFrom false low l) (recFrom true low l) ((recFrom false low (l.take j)).length : Int) ((recFrom true low (l.take j)).length : Int) (marksOf (l.take j)) (j : Int) false) (fun k => ?_) ?_
          · rw [tailwaterlaw20_LateOwn.j2, if_neg (show ¬ (wrap64 ((([l[j].f2] : List S38).length : Int) + (([] : List S38).length : Int)) != 1) = true by simp [wrap64]), if_pos (show (([l[j].f2] : List S38).length : Int) = 1 by simp only [List.length_singleton]; decide), if_neg (by omega), if_pos (by omega), if_pos (by omega), if_pos (by omega), if_pos (by omega), he, rd40 hlt]
            simp
          · refine Ev.step (fun k => ?_) this
            rw [tailwaterlaw20_LateOwn.j3, if_neg (by decide), wrap_next hlt (by omega)]
            rw [show wrap64 (((recFrom false low (l.take j)).length : Int) + 1) = (((recFrom false low (l.take j)) ++ [l[j].f2]).length : Int) by unfold wrap64; simp; omega]
theorem LateOwn (l : List S40) (hl : l.length ≤ 9223372036854775807) : ∃ k, tailwaterlaw20_LateOwn.f k l = some true := by
  refine Ev.rounds (g := fun k => tailwaterlaw20_LateOwn.f k l) ?_
  unfold tailwaterlaw20_LateOwn.f
  refine Ev.bind alive_ev (Ev.bind (ref_check_ev l hl) ?_)
  by_cases h : errOf l = 0
  · simp only [if_pos h]
    refine Ev.step (f := fun k => (late_Split.f k l).bind fun bt354 => (if bt354.2.2 = 0 then (tailwaterlaw20_LateOwn.l0 k l true bt354.1 bt354.2.1 0 0 ([] : List (S40)) 0) else (some false))) (fun k => ?_) ?_
    · rw [tailwaterlaw20_LateOwn.j0, if_neg (by decide)]
    · refine Ev.bind (splitOf_good h ▸ late_split_ev l hl) ?_
      simp only [if_true]
      exact own_loop l h _ 0 rfl (by omega)
  · simp only [if_neg h]
    refine Ev.step (fun k => ?_) (Ev.now _)
    rw [tailwaterlaw20_LateOwn.j0, if_pos rfl]
end Go.Proofs.Ytdmaedaobjcocaa.Q
