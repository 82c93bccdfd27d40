/- What the functions of marks and of its reference compute, as plain functions on lists of numbers. No Go, no memory. -/
import Derived.Test.YtidpnehbmjfdlaaQ11
import Derived.Test.YtidpnehbmjfdlaaQ9
import Derived.Test.YtidpnehbmjfdlaaQ6
import Derived.Test.YtidpnehbmjfdlaaQ2
namespace Go.Proofs.Ytidpnehbmjfdlaa.Q
open Go.RowKit Go.Proofs.YtidpnehbmjfdlaaW.PrintWords Go.Proofs.YtidpnehbmjfdlaaW.PrintLast Go.Proofs.YtidpnehbmjfdlaaW.PrintMore
set_option linter.unusedVariables false
set_option linter.unusedSimpArgs false

def low : Int := -9223372036854775808
def fin : Int := 9223372036854775807
def tm (t : Int) : Bool := decide (-1099511627776 ≤ t) && decide (t ≤ 1099511627776)
def mk (t : Int) : Bool := tm t || t == 9223372036854775807
def ok (t : Int) : Bool := t == -9223372036854775808 || mk t
def chkL (l : List Int) : Int := if l.all ok = true then 0 else 8
def chk (l : List Int) : Int := if l.length = 0 ∨ 4 < l.length then 8 else chkL l
def minFrom (m : Int) (l : List Int) : Int := l.foldl mn m
def least (l : List Int) : Int := match l with
  | [] => 0
  | x :: xs => minFrom x xs
def raisedAt (l : List Int) (i t : Int) : List Int := l.set i.toNat (mx (rd l i) t)
def leastOf (l : List Int) : Int × Int := if chk l = 0 then (least l, 0) else (0, chk l)
def raiseOf (l : List Int) (i t : Int) : List Int × Bool × Int := if chk l = 0 then (if 0 ≤ i ∧ i < l.length ∧ mk t = true then (raisedAt l i t, decide (least (raisedAt l i t) > least l), 0) else ([], false, 2)) else ([], false, chk l)

theorem wrap_next {j n : Nat} (h : j < n) (hn : n ≤ 9223372036854775807) : wrap64 ((j : Int) + 1) = ((j + 1 : Nat) : Int) := by unfold wrap64; omega
theorem rd_at {l : List Int} {j : Nat} (h : j < l.length) : rd l (j : Int) = l[j] := by simp [rd, h]

/-! ### marks -/
theorem time_eq (t : Int) : message_isTime.f t = some (tm t) := by
  unfold message_isTime.f tm
  by_cases h : t ≥ -1099511627776
  · rw [if_pos h]; simp [h]
  · rw [if_neg h]; simp; omega
theorem mark25_eq (t : Int) : tailwaterref25_Mark.f t = some (mk t) := by
  unfold tailwaterref25_Mark.f mk tm
  by_cases h : t ≥ -1099511627776
  · rw [if_pos h]
    by_cases h2 : t ≤ 1099511627776
    · rw [if_pos h2]; simp [h, h2]
    · rw [if_neg h2]; simp [h2]
  · rw [if_neg h]; simp [show ¬ (-1099511627776 ≤ t) from h]
theorem mmark_eq (t : Int) : message_isMark.f t = some (mk t) := by
  unfold message_isMark.f mk
  rw [time_eq, Option.bind_some]
  cases tm t <;> simp
theorem isMark_ev (t : Int) : Ev (fun k => marks_isMark.f k t) (mk t) := by
  refine ⟨1, fun k hk => ?_⟩
  obtain ⟨k, rfl⟩ : ∃ m, k = m + 1 := ⟨k - 1, by omega⟩
  unfold marks_isMark.f message_Check.f
  dsimp only
  rw [if_neg (by decide), message_Check.j0, if_neg (by decide), if_pos rfl, mmark_eq, Option.bind_some]
  cases mk t <;> simp
theorem chkL_cons (x : Int) (l : List Int) : chkL (x :: l) = if ok x = true then chkL l else 8 := by
  unfold chkL; rw [List.all_cons]; cases ok x <;> simp
theorem check_loop (l : List Int) (hl : l.length ≤ 4) (d : Nat) : ∀ j : Nat, l.length - j = d → j ≤ l.length → Ev (fun k => marks_Check.l0 k l (l.length : Int) (j : Int)) (chkL (l.drop j)) := by
  induction d with
  | zero =>
    intro j hd hj
    obtain rfl : j = l.length := by omega
    refine Ev.step (fun k => ?_) (Ev.now _)
    rw [marks_Check.l0, if_neg (by omega), List.drop_length]; rfl
  | succ d ih =>
    intro j hd hj
    have hlt : j < l.length := by omega
    rw [List.drop_eq_getElem_cons hlt, chkL_cons]
    refine Ev.step (f := fun k => if l[j] = -9223372036854775808 then marks_Check.l0 k l (l.length : Int) ((j + 1 : Nat) : Int) else (marks_isMark.f k l[j]).bind fun t => if t = true then marks_Check.l0 k l (l.length : Int) ((j + 1 : Nat) : Int) else some 8) (fun k => ?_) ?_
    · rw [marks_Check.l0, if_pos (by omega), if_pos (by omega), if_pos (by omega), rd_at hlt, wrap_next hlt (by omega)]
    · unfold ok
      by_cases h : l[j] = -9223372036854775808
      · simp only [if_pos h]
        rw [h]; simp only [beq_self_eq_true, Bool.true_or, if_true]
        exact ih (j + 1) (by omega) (by omega)
      · simp only [if_neg h]
        rw [show (l[j] == -9223372036854775808) = false by simpa using h, Bool.false_or]
        refine Ev.bind (isMark_ev _) ?_
        cases mk l[j]
        · exact Ev.now _
        · exact ih (j + 1) (by omega) (by omega)
theorem check_ev (l : List Int) : Ev (fun k => marks_Check.f k l) (chk l) := by
  unfold marks_Check.f chk
  by_cases h0 : l.length = 0
  · simp only [if_pos (show (l.length : Int) = 0 by omega), if_pos (Or.inl h0 : l.length = 0 ∨ 4 < l.length)]
    refine Ev.step (fun k => ?_) (Ev.now _)
    rw [marks_Check.j0, if_pos rfl]
  · simp only [if_neg (show ¬ (l.length : Int) = 0 by omega)]
    by_cases h4 : 4 < l.length
    · rw [if_pos (.inr h4)]
      refine Ev.step (fun k => ?_) (Ev.now _)
      rw [marks_Check.j0, if_pos (by simp; omega)]
    · rw [if_neg (by omega)]
      refine Ev.step (fun k => ?_) (check_loop l (by omega) _ 0 rfl (by omega))
      rw [marks_Check.j0, if_neg (by simp; omega)]; rfl
theorem rcheck_loop (l : List Int) (hl : l.length ≤ 4) (d : Nat) : ∀ j : Nat, l.length - j = d → j ≤ l.length → Ev (fun k => tailwaterref31_Check.l0 k l (j : Int)) (chkL (l.drop j)) := by
  induction d with
  | zero =>
    intro j hd hj
    obtain rfl : j = l.length := by omega
    refine Ev.step (fun k => ?_) (Ev.now _)
    rw [tailwaterref31_Check.l0, if_neg (by omega), List.drop_length]; rfl
  | succ d ih =>
    intro j hd hj
    have hlt : j < l.length := by omega
    rw [List.drop_eq_getElem_cons hlt, chkL_cons]
    refine Ev.step (f := fun k => if ok l[j] = true then tailwaterref31_Check.l0 k l ((j + 1 : Nat) : Int) else some 8) (fun k => ?_) ?_
    · rw [tailwaterref31_Check.l0, if_pos (by omega), if_pos (by omega), rd_at hlt, wrap_next hlt (by omega), mark25_eq, Option.bind_some]
      unfold ok
      by_cases h : l[j] = -9223372036854775808
      · rw [if_pos h, if_pos (by simp [h])]
      · rw [if_neg h, show (l[j] == -9223372036854775808) = false by simpa using h, Bool.false_or]
    · cases ok l[j]
      · exact Ev.now _
      · exact ih (j + 1) (by omega) (by omega)
theorem rcheck_ev (l : List Int) : Ev (fun k => tailwaterref31_Check.f k l) (chk l) := by
  unfold tailwaterref31_Check.f chk
  by_cases h0 : l.length = 0
  · simp only [if_pos (show (l.length : Int) < 1 by omega), if_pos (Or.inl h0 : l.length = 0 ∨ 4 < l.length)]
    refine Ev.step (fun k => ?_) (Ev.now _)
    rw [tailwaterref31_Check.j0, if_pos rfl]
  · simp only [if_neg (show ¬ (l.length : Int) < 1 by omega)]
    by_cases h4 : 4 < l.length
    · rw [if_pos (.inr h4)]
      refine Ev.step (fun k => ?_) (Ev.now _)
      rw [tailwaterref31_Check.j0, if_pos (by simp; omega)]
    · rw [if_neg (by omega)]
      refine Ev.step (fun k => ?_) (rcheck_loop l (by omega) _ 0 rfl (by omega))
      rw [tailwaterref31_Check.j0, if_neg (by simp; omega)]; rfl
theorem chk_len {l : List Int} (h : chk l = 0) : 1 ≤ l.length ∧ l.length ≤ 4 := by
  unfold chk at h
  by_cases h1 : l.length = 0 ∨ 4 < l.length
  · rw [if_pos h1] at h; cases h
  · omega
theorem chk_all {l : List Int} (h : chk l = 0) : ∀ x ∈ l, ok x = true := by
  have hl := chk_len h
  unfold chk at h
  rw [if_neg (by omega)] at h
  unfold chkL at h
  by_cases h1 : l.all ok = true
  · exact List.all_eq_true.1 h1
  · rw [if_neg h1] at h; cases h
theorem chk_of {l : List Int} (h1 : 1 ≤ l.length) (h4 : l.length ≤ 4) (h : ∀ x ∈ l, ok x = true) : chk l = 0 := by
  unfold chk
  rw [if_neg (by omega)]
  unfold chkL
  rw [if_pos (List.all_eq_true.2 h)]

/-! ### the least -/
theorem min_loop (l : List Int) (hl : l.length ≤ 4) (d : Nat) : ∀ (j : Nat) (m : Int), l.length - j = d → j ≤ l.length → Ev (fun k => slices_Min_int64_int64.l0 k l m (j : Int)) (minFrom m (l.drop j)) := by
  induction d with
  | zero =>
    intro j m hd hj
    obtain rfl : j = l.length := by omega
    refine Ev.step (fun k => ?_) (Ev.now _)
    rw [slices_Min_int64_int64.l0, if_neg (by omega), List.drop_length]; rfl
  | succ d ih =>
    intro j m hd hj
    have hlt : j < l.length := by omega
    rw [List.drop_eq_getElem_cons hlt]
    refine Ev.step (fun k => ?_) (ih (j + 1) (mn m l[j]) (by omega) (by omega))
    rw [slices_Min_int64_int64.l0, if_pos (by omega), if_pos (by omega), rd_at hlt, wrap_next hlt (by omega)]
theorem least_from {l : List Int} (h : 1 ≤ l.length) : minFrom (rd l 0) (l.drop 1) = least l := by
  cases l with
  | nil => simp at h
  | cons x xs => simp [least, rd]
theorem min_ev (l : List Int) (h1 : 1 ≤ l.length) (hl : l.length ≤ 4) : Ev (fun k => slices_Min_int64_int64.f k l) (least l) := by
  unfold slices_Min_int64_int64.f
  simp only [if_neg (show ¬ (l.length : Int) < 1 by omega), if_pos (show 0 < (l.length : Int) by omega)]
  rw [← least_from h1]
  exact min_loop l hl _ 1 _ rfl h1
theorem lowest_loop (l : List Int) (hl : l.length ≤ 4) (d : Nat) : ∀ (j : Nat) (m : Int), l.length - j = d → j ≤ l.length → Ev (fun k => tailwaterref31_Lowest.l0 k l m (j : Int)) (minFrom m (l.drop j)) := by
  induction d with
  | zero =>
    intro j m hd hj
    obtain rfl : j = l.length := by omega
    refine Ev.step (fun k => ?_) (Ev.now _)
    rw [tailwaterref31_Lowest.l0, if_neg (by omega), List.drop_length]; rfl
  | succ d ih =>
    intro j m hd hj
    have hlt : j < l.length := by omega
    rw [List.drop_eq_getElem_cons hlt]
    refine Ev.step (fun k => ?_) (ih (j + 1) (mn m l[j]) (by omega) (by omega))
    rw [tailwaterref31_Lowest.l0, if_pos (by omega), if_pos (by omega), rd_at hlt, wrap_next hlt (by omega)]
theorem lowest_ev (l : List Int) (h1 : 1 ≤ l.length) (hl : l.length ≤ 4) : Ev (fun k => tailwaterref31_Lowest.f k l) (least l) := by
  unfold tailwaterref31_Lowest.f
  simp only [if_pos (show 0 < (l.length : Int) by omega)]
  rw [← least_from h1]
  exact lowest_loop l hl _ 1 _ rfl h1
theorem least_ev (l : List Int) : Ev (fun k => marks_Least.f k l) (leastOf l) := by
  unfold marks_Least.f leastOf
  refine Ev.bind (check_ev l) ?_
  by_cases h : chk l = 0
  · simp only [if_pos h]; exact Ev.bind (min_ev l (chk_len h).1 (chk_len h).2) (Ev.now _)
  · simp only [if_neg h]; exact Ev.now _
theorem rleast_ev (l : List Int) : Ev (fun k => tailwaterref31_Least.f k l) (leastOf l) := by
  unfold tailwaterref31_Least.f leastOf
  refine Ev.bind (rcheck_ev l) ?_
  by_cases h : chk l = 0
  · simp only [if_pos h]; exact Ev.bind (lowest_ev l (chk_len h).1 (chk_len h).2) (Ev.now _)
  · simp only [if_neg h]; exact Ev.now _

/-! ### new marks -/
theorem new_loop (n : Nat) (hn : n ≤ 4) (d : Nat) : ∀ j : Nat, n - j = d → j ≤ n → Ev (fun k => marks_New.l0 k (n : Int) (List.replicate j (-9223372036854775808)) (j : Int)) (List.replicate n (-9223372036854775808), 0) := by
  induction d with
  | zero =>
    intro j hd hj
    obtain rfl : j = n := by omega
    refine Ev.step (fun k => ?_) (Ev.now _)
    rw [marks_New.l0, if_neg (by omega)]
  | succ d ih =>
    intro j hd hj
    refine Ev.step (fun k => ?_) (ih (j + 1) (by omega) (by omega))
    rw [marks_New.l0, if_pos (by omega), if_pos (by simp; omega), List.replicate_succ', show wrap64 ((j : Int) + 1) = ((j + 1 : Nat) : Int) by unfold wrap64; omega]
theorem rnew_loop (n : Nat) (hn : n ≤ 4) (d : Nat) : ∀ j : Nat, n - j = d → j ≤ n → Ev (fun k => tailwaterref31_New.l0 k (n : Int) (List.replicate j (-9223372036854775808)) (j : Int)) (List.replicate n (-9223372036854775808), 0) := by
  induction d with
  | zero =>
    intro j hd hj
    obtain rfl : j = n := by omega
    refine Ev.step (fun k => ?_) (Ev.now _)
    rw [tailwaterref31_New.l0, if_neg (by omega)]
  | succ d ih =>
    intro j hd hj
    refine Ev.step (fun k => ?_) (ih (j + 1) (by omega) (by omega))
    rw [tailwaterref31_New.l0, if_pos (by omega), if_pos (by simp; omega), List.replicate_succ', show wrap64 ((j : Int) + 1) = ((j + 1 : Nat) : Int) by unfold wrap64; omega]
def newOf (a : Int) : List Int × Int := if 1 ≤ a ∧ a ≤ 4 then (List.replicate a.toNat (-9223372036854775808), 0) else ([], 2)
theorem new_ev (a : Int) : Ev (fun k => marks_New.f k a) (newOf a) := by
  unfold marks_New.f newOf
  by_cases h1 : a < 1
  · simp only [if_pos h1]
    rw [if_neg (by omega)]
    refine Ev.step (fun k => ?_) (Ev.now _)
    rw [marks_New.j0, if_pos rfl]
  · simp only [if_neg h1]
    by_cases h4 : a > 4
    · rw [if_neg (by omega)]
      refine Ev.step (fun k => ?_) (Ev.now _)
      rw [marks_New.j0, if_pos (by simpa using h4)]
    · obtain ⟨n, rfl⟩ := Int.eq_ofNat_of_zero_le (show 0 ≤ a by omega)
      rw [if_pos (by omega)]
      refine Ev.step (fun k => ?_) (new_loop n (by omega) _ 0 rfl (by omega))
      rw [marks_New.j0, if_neg (by simpa using h4)]; rfl
theorem rnew_ev (a : Int) : Ev (fun k => tailwaterref31_New.f k a) (newOf a) := by
  unfold tailwaterref31_New.f newOf
  by_cases h1 : a < 1
  · simp only [if_pos h1]
    rw [if_neg (by omega)]
    refine Ev.step (fun k => ?_) (Ev.now _)
    rw [tailwaterref31_New.j0, if_pos rfl]
  · simp only [if_neg h1]
    by_cases h4 : a > 4
    · rw [if_neg (by omega)]
      refine Ev.step (fun k => ?_) (Ev.now _)
      rw [tailwaterref31_New.j0, if_pos (by simpa using h4)]
    · obtain ⟨n, rfl⟩ := Int.eq_ofNat_of_zero_le (show 0 ≤ a by omega)
      rw [if_pos (by omega)]
      refine Ev.step (fun k => ?_) (rnew_loop n (by omega) _ 0 rfl (by omega))
      rw [tailwaterref31_New.j0, if_neg (by simpa using h4)]; rfl
theorem new_len (a : Int) : (newOf a).1.length ≤ 4 := by
  unfold newOf
  by_cases h : 1 ≤ a ∧ a ≤ 4
  · rw [if_pos h]; simp; omega
  · rw [if_neg h]; simp

/-! ### raising -/
theorem raised_len (l : List Int) (i t : Int) : (raisedAt l i t).length = l.length := by simp [raisedAt]
theorem raise_ev (l : List Int) (i t : Int) : Ev (fun k => marks_Raise.f k l i t) (raiseOf l i t) := by
  unfold marks_Raise.f raiseOf
  refine Ev.bind (least_ev l) ?_
  unfold leastOf
  by_cases h : chk l = 0
  · have hl := chk_len h
    simp only [if_pos h, if_true]
    by_cases h0 : i < 0
    · simp only [if_pos h0]
      rw [if_neg (by omega)]
      refine Ev.step (fun k => ?_) (Ev.now _)
      rw [marks_Raise.j0, if_pos rfl]
    · simp only [if_neg h0]
      by_cases h1 : i ≥ (l.length : Int)
      · simp only [if_pos h1]
        rw [if_neg (by omega)]
        refine Ev.step (fun k => ?_) (Ev.now _)
        rw [marks_Raise.j0, if_pos rfl]
      · simp only [if_neg h1]
        refine Ev.bind (isMark_ev t) ?_
        cases hm : mk t
        · rw [if_neg (by simp)]
          refine Ev.step (fun k => ?_) (Ev.now _)
          rw [marks_Raise.j0, if_pos (by decide)]
        · rw [if_pos ⟨by omega, by omega, rfl⟩]
          refine Ev.step (f := fun k => (slices_Min_int64_int64.f k (raisedAt l i t)).bind fun t151 => some (raisedAt l i t, decide (t151 > least l), 0)) (fun k => ?_) ?_
          · rw [marks_Raise.j0, if_neg (by decide)]
            unfold slices_Clone_int64_int64.f
            simp only [Option.bind_some, List.length_nil, Nat.zero_add, List.nil_append]
            rw [if_pos (by omega), Option.bind_some, if_pos (by omega), if_pos (by omega)]; rfl
          · exact Ev.bind (min_ev _ (by rw [raised_len]; omega) (by rw [raised_len]; omega)) (Ev.now _)
  · simp only [if_neg h]; exact Ev.now _
theorem rraised_ev (l : List Int) (i t : Int) (h1 : 1 ≤ l.length) (h4 : l.length ≤ 4) (h0 : 0 ≤ i) (hi : i < l.length) : Ev (fun k => tailwaterref31_Raised.f k l i t) (raisedAt l i t, decide (least (raisedAt l i t) > least l)) := by
  unfold tailwaterref31_Raised.f
  simp only [Option.bind_some, List.length_nil, Nat.zero_add, List.nil_append, if_pos (show l.length < 17592186044416 by omega), if_pos h0, if_pos hi]
  exact Ev.bind (lowest_ev (raisedAt l i t) (by rw [raised_len]; omega) (by rw [raised_len]; omega)) (Ev.bind (lowest_ev l h1 h4) (Ev.now _))
theorem rraise_ev (l : List Int) (i t : Int) : Ev (fun k => tailwaterref31_Raise.f k l i t) (raiseOf l i t) := by
  unfold tailwaterref31_Raise.f raiseOf
  refine Ev.bind (rcheck_ev l) ?_
  by_cases h : chk l = 0
  · have hl := chk_len h
    simp only [if_pos h, mark25_eq, Option.bind_some]
    by_cases h0 : i < 0
    · simp only [if_pos h0]; rw [if_neg (by omega)]; exact Ev.now _
    · simp only [if_neg h0]
      by_cases h1 : i ≥ (l.length : Int)
      · simp only [if_pos h1]; rw [if_neg (by omega)]; exact Ev.now _
      · simp only [if_neg h1]
        cases hm : mk t
        · rw [if_neg (by simp)]; exact Ev.now _
        · rw [if_pos ⟨by omega, by omega, rfl⟩]
          exact Ev.bind (rraised_ev l i t hl.1 hl.2 (by omega) (by omega)) (Ev.now _)
  · simp only [if_neg h]; exact Ev.now _
theorem raiseOf_len (l : List Int) (i t : Int) : (raiseOf l i t).1.length ≤ 4 := by
  unfold raiseOf
  by_cases h : chk l = 0
  · rw [if_pos h]
    have := (chk_len h).2
    split
    · rw [raised_len]; omega
    · simp
  · rw [if_neg h]; simp

theorem same_loop (l : List Int) (hl : l.length ≤ 100) (d : Nat) : ∀ j : Nat, l.length - j = d → j ≤ l.length → Ev (fun k => tailwaterref31_Same.l0 k l l (j : Int)) true := by
  induction d with
  | zero =>
    intro j hd hj
    refine Ev.step (fun k => ?_) (Ev.now _)
    rw [tailwaterref31_Same.l0, if_neg (by omega)]
  | succ d ih =>
    intro j hd hj
    have hlt : j < l.length := by omega
    refine Ev.step (fun k => ?_) (ih (j + 1) (by omega) (by omega))
    rw [tailwaterref31_Same.l0, if_pos (by omega), if_pos (by omega), if_pos (by omega), if_pos rfl, wrap_next hlt (by omega)]
theorem same_ev (l : List Int) (hl : l.length ≤ 100) : Ev (fun k => tailwaterref31_Same.f k l l) true := by
  unfold tailwaterref31_Same.f
  simp only [if_true]
  exact same_loop l hl _ 0 rfl (by omega)
theorem alive_ev : Ev (fun k => tailwaterlaw31_alive.f k) true := Ev.of tailwaterlaw31_alive.mono (k := 30) (by decide +kernel)
end Go.Proofs.Ytidpnehbmjfdlaa.Q
