/- Behind the mark Final each record is late, without a mark none is; each record is in just one of the two lists. No condition but the machine's bound on lengths. -/
import Derived.Test.YtdmaedaobjcocaaQ10
import Derived.Test.YtdmaedaobjcocaaPlain
namespace Go.Proofs.Ytdmaedaobjcocaa.Q
open Go.RowKit Go.Proofs.YtdmaedaobjcocaaW.PrintWords Go.Proofs.YtdmaedaobjcocaaW.PrintLast Go.Proofs.YtdmaedaobjcocaaW.PrintMore
set_option linter.unusedVariables false
set_option linter.unusedSimpArgs false
def bare (l : List S40) : List S40 := l.filter (fun x => !x.f0)
theorem bare_cons_mark {x : S40} {l : List S40} (h : x.f0 = true) : bare (x :: l) = bare l := by unfold bare; rw [List.filter_cons_of_neg (by simp [h])]
theorem bare_cons_rec {x : S40} {l : List S40} (h : ¬ x.f0 = true) : bare (x :: l) = x :: bare l := by unfold bare; rw [List.filter_cons_of_pos (by simpa using h)]
theorem both_len (l : List S40) : ∀ m, (recFrom false m l).length + (recFrom true m l).length = (bare l).length := by
  induction l with
  | nil => intro m; rfl
  | cons x xs ih =>
    intro m
    rw [recFrom, recFrom]
    by_cases h : x.f0 = true
    · rw [if_pos h, if_pos h, bare_cons_mark h]; exact ih _
    · rw [if_neg h, if_neg h, bare_cons_rec h]
      have := ih m
      by_cases h2 : x.f2.f1 < m
      · rw [if_neg (by simp [h2]), if_pos (by simp [h2])]; simp; omega
      · rw [if_pos (by simp [h2]), if_neg (by simp [h2])]; simp; omega
theorem all_late (l : List S40) (hv : ∀ x ∈ l, valid x = true) : recFrom false 9223372036854775807 l = [] := by
  induction l with
  | nil => rfl
  | cons x xs ih =>
    have ih := ih (fun y hy => hv y (by simp [hy]))
    rw [recFrom]
    by_cases h : x.f0 = true
    · rw [if_pos h]
      have hx := valid_mark (hv x (by simp)) h
      have : Raised 9223372036854775807 x = 9223372036854775807 := by
        unfold Raised mx; rw [if_pos h, if_neg]
        rcases hx with hx | hx
        · omega
        · have := tm_bounds hx; omega
      rw [this]; exact ih
    · rw [if_neg h]
      have := tm_bounds (valid_rec (hv x (by simp)) h)
      rw [if_neg (by simp; omega)]
      exact ih
theorem none_late (l : List S40) (hv : ∀ x ∈ l, valid x = true) : recFrom true low (bare l) = [] := by
  induction l with
  | nil => rfl
  | cons x xs ih =>
    have ih := ih (fun y hy => hv y (by simp [hy]))
    by_cases h : x.f0 = true
    · rw [bare_cons_mark h]; exact ih
    · rw [bare_cons_rec h, recFrom, if_neg h]
      have := tm_bounds (valid_rec (hv x (by simp)) h)
      rw [if_neg (by unfold low; simp; omega)]
      exact ih
theorem bare_len (l : List S40) : (bare l).length ≤ l.length := List.length_filter_le _ _
theorem bare_bare (l : List S40) : bare (bare l) = bare l := by unfold bare; rw [List.filter_filter]; simp
theorem ends_loop (l : List S40) (hl : l.length < 60) (H : Ev (fun k => tailwaterlaw20_LateEnds.l0 k l true (bare l) (l.length : Int)) true) (d : Nat) : ∀ (j : Nat) (acc : List S40), l.length - j = d → j ≤ l.length → acc.length ≤ j → acc ++ bare (l.drop j) = bare l → Ev (fun k => tailwaterlaw20_LateEnds.l0 k l true acc (j : Int)) true := by
  induction d with
  | zero =>
    intro j acc hd hj hc ha
    obtain rfl : j = l.length := by omega
    rw [List.drop_length] at ha
    obtain rfl : acc = bare l := by rw [← ha]; simp [bare]
    exact H
  | succ d ih =>
    intro j acc hd hj hc ha
    have hlt : j < l.length := by omega
    rw [List.drop_eq_getElem_cons hlt] at ha
    by_cases h : l[j].f0 = true
    · rw [bare_cons_mark h] at ha
      refine Ev.step (fun k => ?_) (ih (j + 1) acc (by omega) (by omega) (by omega) ha)
      rw [tailwaterlaw20_LateEnds.l0, if_pos (by omega), if_pos (by omega), rd40 hlt, if_pos h, wrap_next hlt (by omega)]
    · rw [bare_cons_rec h] at ha
      refine Ev.step (fun k => ?_) (ih (j + 1) (acc ++ [l[j]]) (by omega) (by omega) (by simp; omega) (by rw [List.append_assoc, List.singleton_append]; exact ha))
      rw [tailwaterlaw20_LateEnds.l0, if_pos (by omega), if_pos (by omega), rd40 hlt, if_neg h, if_pos (by omega), wrap_next hlt (by omega)]
theorem LateEnds (l : List S40) (hl : l.length ≤ 9223372036854775807) : ∃ k, tailwaterlaw20_LateEnds.f k l = some true := by
  refine Ev.rounds (g := fun k => tailwaterlaw20_LateEnds.f k l) ?_
  unfold tailwaterlaw20_LateEnds.f
  refine Ev.bind alive_ev (Ev.bind (ref_check_ev l hl) ?_)
  by_cases h : errOf l = 0
  · simp only [if_pos h]
    by_cases h60 : (l.length : Int) ≥ 60
    · simp only [if_pos h60]
      refine Ev.step (fun k => ?_) (Ev.now _)
      rw [tailwaterlaw20_LateEnds.j0, if_pos rfl]
    · simp only [if_neg h60]
      have hz := errOf_zero.1 h
      have hb := bare_len l
      have e1 : errOf ([mkE 9223372036854775807] ++ l) = 0 := errOf_zero.2 ⟨by simp; omega, fun x hx => by
        rcases List.mem_append.1 hx with hx | hx
        · rw [List.mem_singleton.1 hx]; decide
        · exact hz.2 x hx⟩
      have e2 : errOf (bare l) = 0 := errOf_zero.2 ⟨by omega, fun x hx => hz.2 x (List.mem_filter.1 hx).1⟩
      have s1 : splitOf ([mkE 9223372036854775807] ++ l) = ([], recFrom true 9223372036854775807 l, 0) := by
        rw [splitOf_good e1]
        have r : mx low 9223372036854775807 = 9223372036854775807 := by decide
        show (recFrom false low (mkE 9223372036854775807 :: l), recFrom true low (mkE 9223372036854775807 :: l), 0) = _
        rw [recFrom_mk, recFrom_mk, r, all_late l hz.2]
      have s2 : splitOf (bare l) = (recFrom false low (bare l), [], 0) := by rw [splitOf_good e2, none_late l hz.2]
      have n1 : (recFrom true 9223372036854775807 l).length = (bare l).length := by
        have := both_len l 9223372036854775807
        rw [all_late l hz.2] at this
        simpa using this
      have n2 : (recFrom false low (bare l)).length = (bare l).length := by
        have := both_len (bare l) low
        rw [none_late l hz.2, bare_bare] at this
        simpa using this
      have n3 := both_len l low
      refine Ev.step (f := fun k => tailwaterlaw20_LateEnds.l0 k l true [] ((0 : Nat) : Int)) (fun k => ?_) ?_
      · rw [tailwaterlaw20_LateEnds.j0, if_neg (by decide)]; rfl
      · refine ends_loop l (by omega) ?_ _ 0 [] rfl (by omega) (by simp) (by simp)
        refine Ev.step (f := fun k => (late_Split.f k ([mkE 9223372036854775807] ++ l)).bind fun bt474 => ((late_Split.f k (bare l)).bind fun bt481 => ((late_Split.f k l).bind fun bt488 => (if true = true then (if bt474.2.2 = 0 then (if bt481.2.2 = 0 then (if bt488.2.2 = 0 then (if (bt474.1.length : Int) = 0 then (if (bt474.2.1.length : Int) = ((bare l).length : Int) then (if (bt481.1.length : Int) = ((bare l).length : Int) then (if (bt481.2.1.length : Int) = 0 then (some ((wrap64 ((bt488.1.length : Int) + (bt488.2.1.length : Int))) == ((bare l).length : Int))) else (some false)) else (some false)) else (some false)) else (some false)) else (some false)) else (some false)) else (some false)) else (some false))))) (fun k => ?_) ?_
        · rw [tailwaterlaw20_LateEnds.l0, if_neg (by omega)]
          unfold tailwaterlaw20_mark.f
          rw [Option.bind_some, Option.bind_some]
          show (if [mkE 9223372036854775807].length + l.length < 3518437208883 then _ else _) = _
          rw [if_pos (by simp; omega)]; rfl
        · refine Ev.bind (s1 ▸ late_split_ev _ (by simp; omega)) (Ev.bind (s2 ▸ late_split_ev _ (by omega)) (Ev.bind (splitOf_good h ▸ late_split_ev l hl) ?_))
          simp only [if_true, List.length_nil]
          rw [n1, n2]
          simp only [if_true]
          rw [show wrap64 (((recFrom false low l).length : Int) + ((recFrom true low l).length : Int)) = ((bare l).length : Int) by unfold wrap64; omega]
          simp only [beq_self_eq_true]
          exact Ev.now _
  · simp only [if_neg h]
    refine Ev.step (fun k => ?_) (Ev.now _)
    rw [tailwaterlaw20_LateEnds.j0, if_pos rfl]
end Go.Proofs.Ytdmaedaobjcocaa.Q
