/- What the functions of late and of its reference compute, as plain functions on lists of events. No Go, no memory. -/
import Derived.Test.YtdmaedaobjcocaaQ4
import Derived.Test.YtdmaedaobjcocaaHClos
namespace Go.Proofs.Ytdmaedaobjcocaa.Q
open Go.RowKit Go.Proofs.YtdmaedaobjcocaaW.PrintWords Go.Proofs.YtdmaedaobjcocaaW.PrintLast Go.Proofs.YtdmaedaobjcocaaW.PrintMore
set_option linter.unusedVariables false
set_option linter.unusedSimpArgs false

def tm (t : Int) : Bool := decide (-1099511627776 ≤ t) && decide (t ≤ 1099511627776)
def valid (x : S40) : Bool := if x.f0 = true then ((x.f2.f0 == 0 && (x.f2.f1 == 0 && (x.f2.f2 == 0))) && (x.f1 == 9223372036854775807 || tm x.f1)) else (x.f1 == 0 && tm x.f2.f1)
def chk (l : List S40) : Int := if l.all valid = true then 0 else 8
def errOf (l : List S40) : Int := if 60 < l.length then 4 else chk l
def markFrom (m : Int) (l : List S40) : Int := l.foldl Raised m
def low : Int := -9223372036854775808
def recFrom (b : Bool) (m : Int) : List S40 → List S38
  | [] => []
  | x :: xs => if x.f0 = true then recFrom b (Raised m x) xs else if (decide (x.f2.f1 < m) == b) = true then x.f2 :: recFrom b m xs else recFrom b m xs

theorem wrap_next {j n : Nat} (h : j < n) (hn : n ≤ 9223372036854775807) : wrap64 ((j : Int) + 1) = ((j + 1 : Nat) : Int) := by unfold wrap64; omega
theorem rd40 {l : List S40} {j : Nat} (h : j < l.length) : rd_T40 l (j : Int) = l[j] := by simp [rd_T40, h]
theorem rd38 {l : List S38} {j : Nat} (h : j < l.length) : rd_T38 l (j : Int) = l[j] := by simp [rd_T38, h]

/-! ### valid events -/
theorem time_eq (t : Int) : late_time.f t = some (tm t) := by
  unfold late_time.f tm
  by_cases h : t ≥ -1099511627776
  · rw [if_pos h]; simp [h]
  · rw [if_neg h]; simp; omega
theorem check13_ev (t : Int) : Ev (fun k => tailwaterref13_Check.f k t 1) (if tm t = true then 0 else 16) := by
  refine ⟨1, fun k hk => ?_⟩
  obtain ⟨k, rfl⟩ : ∃ m, k = m + 1 := ⟨k - 1, by omega⟩
  unfold tailwaterref13_Check.f tailwaterref13_Check.j0 tm
  by_cases h1 : t < -1099511627776
  · simp [h1]; try omega
  · by_cases h2 : t > 1099511627776
    · simp [h1, h2]; try omega
    · simp [h1, h2]; try omega
theorem valid_ev (x : S40) : Ev (fun k => tailwaterref20_Valid.f k x.f0 x.f1 x.f2.f0 x.f2.f1 x.f2.f2) (valid x) := by
  unfold tailwaterref20_Valid.f valid
  by_cases h0 : x.f0 = true
  · simp only [if_pos h0]
    by_cases h1 : (x.f2.f0 == 0 && (x.f2.f1 == 0 && (x.f2.f2 == 0))) = true
    · simp only [if_pos h1]
      by_cases h2 : x.f1 = 9223372036854775807
      · simp only [if_pos h2]
        rw [h1, h2]
        exact Ev.now _
      · simp only [if_neg h2]
        refine Ev.bind (check13_ev x.f1) ?_
        rw [h1, show (x.f1 == 9223372036854775807) = false by simpa using h2]
        cases tm x.f1 <;> exact Ev.now _
    · simp only [if_neg h1]
      rw [Bool.eq_false_iff.mpr h1]
      exact Ev.now _
  · simp only [if_neg h0]
    by_cases h2 : x.f1 = 0
    · simp only [if_pos h2]
      refine Ev.bind (check13_ev x.f2.f1) ?_
      rw [h2]
      cases tm x.f2.f1 <;> exact Ev.now _
    · simp only [if_neg h2]
      rw [show (x.f1 == 0) = false by simpa using h2]
      exact Ev.now _
theorem chk_cons (x : S40) (l : List S40) : chk (x :: l) = if valid x = true then chk l else 8 := by
  unfold chk; rw [List.all_cons]; cases valid x <;> simp
theorem ref_check_loop (l : List S40) (hl : l.length ≤ 9223372036854775807) (d : Nat) : ∀ j : Nat, l.length - j = d → j ≤ l.length → Ev (fun k => tailwaterref20_Check.l0 k l (j : Int)) (chk (l.drop j)) := by
  induction d with
  | zero =>
    intro j hd hj
    obtain rfl : j = l.length := by omega
    refine Ev.step (fun k => ?_) (Ev.now _)
    rw [tailwaterref20_Check.l0, if_neg (by omega), List.drop_length]; rfl
  | succ d ih =>
    intro j hd hj
    have hlt : j < l.length := by omega
    rw [List.drop_eq_getElem_cons hlt, chk_cons]
    refine Ev.step (f := fun k => (tailwaterref20_Valid.f k l[j].f0 l[j].f1 l[j].f2.f0 l[j].f2.f1 l[j].f2.f2).bind fun t => if t = true then tailwaterref20_Check.l0 k l ((j + 1 : Nat) : Int) else some 8) (fun k => ?_) ?_
    · rw [tailwaterref20_Check.l0, if_pos (by omega), if_pos (by omega), rd40 hlt, wrap_next hlt hl]
    · refine Ev.bind (valid_ev _) ?_
      cases valid l[j]
      · exact Ev.now _
      · exact ih (j + 1) (by omega) (by omega)
theorem ref_check_ev (l : List S40) (hl : l.length ≤ 9223372036854775807) : Ev (fun k => tailwaterref20_Check.f k l) (errOf l) := by
  unfold tailwaterref20_Check.f errOf
  by_cases h : 60 < l.length
  · simp only [if_pos h, if_pos (show (l.length : Int) > 60 by omega)]; exact Ev.now _
  · simp only [if_neg h, if_neg (show ¬ (l.length : Int) > 60 by omega)]; exact ref_check_loop l hl _ 0 rfl (by omega)
theorem late_step (b : Bool) (t u v z : Int) (A : Option Int) :
    (if (u == 0 && (v == 0 && (z == 0))) = true then ((late_time.f t).bind fun t103 => (if t103 = true then (if t = 0 then ((late_time.f v).bind fun t104 => (if b = true then A else (if t104 = true then A else (some 8)))) else (if b = true then A else (some 8))) else (if t = 0 then ((late_time.f v).bind fun t105 => (if b = true then (if t = 9223372036854775807 then A else (some 8)) else (if t105 = true then A else (some 8)))) else (if b = true then (if t = 9223372036854775807 then A else (some 8)) else (some 8))))) else (if t = 0 then ((late_time.f v).bind fun t106 => (if b = true then (some 8) else (if t106 = true then A else (some 8)))) else (if b = true then (some 8) else (some 8))))
      = if valid ⟨b, t, ⟨u, v, z⟩⟩ = true then A else some 8 := by
  rw [time_eq, time_eq]
  simp only [Option.bind_some, valid]
  cases hz : (u == 0 && (v == 0 && (z == 0))) <;> cases b <;> cases ht : tm t <;> cases hv : tm v <;> by_cases h0 : t = 0 <;> by_cases h1 : t = 9223372036854775807 <;> simp_all
theorem late_check_loop (l : List S40) (hl : l.length ≤ 9223372036854775807) (d : Nat) : ∀ j : Nat, l.length - j = d → j ≤ l.length → Ev (fun k => late_Check.l0 k l (l.length : Int) (j : Int)) (chk (l.drop j)) := by
  induction d with
  | zero =>
    intro j hd hj
    obtain rfl : j = l.length := by omega
    refine Ev.step (fun k => ?_) (Ev.now _)
    rw [late_Check.l0, if_neg (by omega), List.drop_length]; rfl
  | succ d ih =>
    intro j hd hj
    have hlt : j < l.length := by omega
    rw [List.drop_eq_getElem_cons hlt, chk_cons]
    refine Ev.step (f := fun k => if valid l[j] = true then late_Check.l0 k l (l.length : Int) ((j + 1 : Nat) : Int) else some 8) (fun k => ?_) ?_
    · rw [late_Check.l0, if_pos (by omega), if_pos (by omega), if_pos (by omega), rd40 hlt, wrap_next hlt hl]
      exact late_step _ _ _ _ _ _
    · cases valid l[j]
      · exact Ev.now _
      · exact ih (j + 1) (by omega) (by omega)
theorem late_check_ev (l : List S40) (hl : l.length ≤ 9223372036854775807) : Ev (fun k => late_Check.f k l) (errOf l) := by
  unfold late_Check.f errOf
  by_cases h : 60 < l.length
  · simp only [if_pos h, if_pos (show (l.length : Int) > 60 by omega)]; exact Ev.now _
  · simp only [if_neg h, if_neg (show ¬ (l.length : Int) > 60 by omega)]; exact late_check_loop l hl _ 0 rfl (by omega)

/-! ### marks -/
theorem mark_cons (m : Int) (x : S40) (l : List S40) : markFrom m (x :: l) = markFrom (Raised m x) l := rfl
theorem of_loop (l : List S40) (hl : l.length ≤ 9223372036854775807) (d : Nat) : ∀ (j : Nat) (m : Int), l.length - j = d → j ≤ l.length → Ev (fun k => tailwaterref20_Of.l0 k l m (j : Int)) (markFrom m (l.drop j)) := by
  induction d with
  | zero =>
    intro j m hd hj
    obtain rfl : j = l.length := by omega
    refine Ev.step (fun k => ?_) (Ev.now _)
    rw [tailwaterref20_Of.l0, if_neg (by omega), List.drop_length]; rfl
  | succ d ih =>
    intro j m hd hj
    have hlt : j < l.length := by omega
    rw [List.drop_eq_getElem_cons hlt, mark_cons]
    refine Ev.step (fun k => ?_) (ih (j + 1) (Raised m l[j]) (by omega) (by omega))
    rw [tailwaterref20_Of.l0, if_pos (by omega), if_pos (by omega), rd40 hlt, wrap_next hlt hl]
    unfold Raised mx
    by_cases h : l[j].f0 = true
    · simp only [if_pos h]
      by_cases h2 : m < l[j].f1
      · rw [if_pos h2, if_pos h2]
      · rw [if_neg h2, if_neg h2]
    · simp only [if_neg h]
theorem of_ev (l : List S40) (hl : l.length ≤ 9223372036854775807) : Ev (fun k => tailwaterref20_Of.f k l) (markFrom low l) := of_loop l hl _ 0 low rfl (by omega)
theorem late_mark_loop (l : List S40) (hl : l.length ≤ 9223372036854775807) (d : Nat) : ∀ (j : Nat) (m : Int), l.length - j = d → j ≤ l.length → Ev (fun k => late_Mark.l0 k m l (l.length : Int) (j : Int)) (markFrom m (l.drop j), 0) := by
  induction d with
  | zero =>
    intro j m hd hj
    obtain rfl : j = l.length := by omega
    refine Ev.step (fun k => ?_) (Ev.now _)
    rw [late_Mark.l0, if_neg (by omega), List.drop_length]; rfl
  | succ d ih =>
    intro j m hd hj
    have hlt : j < l.length := by omega
    rw [List.drop_eq_getElem_cons hlt, mark_cons]
    refine Ev.step (fun k => ?_) (ih (j + 1) (Raised m l[j]) (by omega) (by omega))
    rw [late_Mark.l0, if_pos (by omega), if_pos (by omega), if_pos (by omega), rd40 hlt, wrap_next hlt hl]
    unfold Raised
    split <;> rfl
def markOf (l : List S40) : Int × Int := if errOf l = 0 then (markFrom low l, 0) else (0, errOf l)
theorem late_mark_ev (l : List S40) (hl : l.length ≤ 9223372036854775807) : Ev (fun k => late_Mark.f k l) (markOf l) := by
  unfold late_Mark.f markOf
  refine Ev.bind (late_check_ev l hl) ?_
  by_cases h : errOf l = 0
  · simp only [if_pos h]; exact late_mark_loop l hl _ 0 low rfl (by omega)
  · simp only [if_neg h]; exact Ev.now _
theorem ref_mark_ev (l : List S40) (hl : l.length ≤ 9223372036854775807) : Ev (fun k => tailwaterref20_Mark.f k l) (markOf l) := by
  unfold tailwaterref20_Mark.f markOf
  refine Ev.bind (ref_check_ev l hl) ?_
  by_cases h : errOf l = 0
  · simp only [if_pos h]; exact Ev.bind (of_ev l hl) (Ev.now _)
  · simp only [if_neg h]; exact Ev.now _

/-! ### records -/
theorem errOf_len {l : List S40} (h : errOf l = 0) : l.length ≤ 60 := by
  unfold errOf at h
  by_cases h1 : 60 < l.length
  · rw [if_pos h1] at h; cases h
  · omega
theorem late_split_loop (l : List S40) (hl : l.length ≤ 60) (d : Nat) : ∀ (j : Nat) (m : Int) (xs ys : List S38), l.length - j = d → j ≤ l.length → xs.length ≤ j → ys.length ≤ j →
    Ev (fun k => late_Split.l0 k xs ys m l (l.length : Int) (j : Int)) (xs ++ recFrom false m (l.drop j), ys ++ recFrom true m (l.drop j), 0) := by
  induction d with
  | zero =>
    intro j m xs ys hd hj hx hy
    obtain rfl : j = l.length := by omega
    refine Ev.step (fun k => ?_) (Ev.now _)
    rw [late_Split.l0, if_neg (by omega), List.drop_length]; simp [recFrom]
  | succ d ih =>
    intro j m xs ys hd hj hx hy
    have hlt : j < l.length := by omega
    rw [List.drop_eq_getElem_cons hlt]
    unfold recFrom
    by_cases h : l[j].f0 = true
    · simp only [if_pos h]
      refine Ev.step (fun k => ?_) (ih (j + 1) (Raised m l[j]) xs ys (by omega) (by omega) (by omega) (by omega))
      rw [late_Split.l0, if_pos (by omega), if_pos (by omega), if_pos (by omega), rd40 hlt, wrap_next hlt (by omega), if_pos h]
      unfold Raised; rw [if_pos h]
    · simp only [if_neg h]
      by_cases h2 : l[j].f2.f1 < m
      · have := ih (j + 1) m xs (ys ++ [l[j].f2]) (by omega) (by omega) (by omega) (by simp; omega)
        rw [if_neg (by simp [h2]), if_pos (by simp [h2])]
        rw [List.append_assoc, List.singleton_append] at this
        refine Ev.step (fun k => ?_) this
        rw [late_Split.l0, if_pos (by omega), if_pos (by omega), if_pos (by omega), rd40 hlt, wrap_next hlt (by omega), if_neg h, if_pos h2, if_pos (by omega)]
      · have := ih (j + 1) m (xs ++ [l[j].f2]) ys (by omega) (by omega) (by simp; omega) (by omega)
        rw [if_pos (by simp [h2]), if_neg (by simp [h2])]
        rw [List.append_assoc, List.singleton_append] at this
        refine Ev.step (fun k => ?_) this
        rw [late_Split.l0, if_pos (by omega), if_pos (by omega), if_pos (by omega), rd40 hlt, wrap_next hlt (by omega), if_neg h, if_neg h2, if_pos (by omega)]
theorem mark_snoc (m : Int) (l : List S40) (j : Nat) (h : j < l.length) : markFrom m (l.take (j + 1)) = Raised (markFrom m (l.take j)) l[j] := by
  unfold markFrom
  rw [List.take_succ_eq_append_getElem h, List.foldl_append]; rfl
theorem records_loop (l : List S40) (hl : l.length ≤ 60) (b : Bool) (d : Nat) : ∀ (j : Nat) (xs : List S38), l.length - j = d → j ≤ l.length → xs.length ≤ j →
    Ev (fun k => tailwaterref20_Records.l0 k l b xs (j : Int)) (xs ++ recFrom b (markFrom low (l.take j)) (l.drop j)) := by
  induction d with
  | zero =>
    intro j xs hd hj hx
    obtain rfl : j = l.length := by omega
    refine Ev.step (fun k => ?_) (Ev.now _)
    rw [tailwaterref20_Records.l0, if_neg (by omega), List.drop_length]; simp [recFrom]
  | succ d ih =>
    intro j xs hd hj hx
    have hlt : j < l.length := by omega
    have hm := mark_snoc low l j hlt
    rw [List.drop_eq_getElem_cons hlt]
    unfold recFrom
    by_cases h : l[j].f0 = true
    · simp only [if_pos h]
      have := ih (j + 1) xs (by omega) (by omega) (by omega)
      rw [hm] at this
      refine Ev.step (fun k => ?_) this
      rw [tailwaterref20_Records.l0, if_pos (by omega), if_pos (by omega), rd40 hlt, wrap_next hlt (by omega), if_pos h]
    · simp only [if_neg h]
      have hm' : markFrom low (l.take (j + 1)) = markFrom low (l.take j) := by rw [hm]; unfold Raised; rw [if_neg h]
      refine Ev.step (f := fun k => (tailwaterref20_Of.f k (l.take j)).bind fun t => if ((decide (l[j].f2.f1 < t)) == b) = true then (if xs.length < 5864062014805 then tailwaterref20_Records.l0 k l b (xs ++ [l[j].f2]) ((j + 1 : Nat) : Int) else none) else tailwaterref20_Records.l0 k l b xs ((j + 1 : Nat) : Int)) (fun k => ?_) ?_
      · rw [tailwaterref20_Records.l0, if_pos (by omega), if_pos (by omega), rd40 hlt, wrap_next hlt (by omega), if_neg h, if_pos (by omega)]; rfl
      · refine Ev.bind (of_ev _ (by simp; omega)) ?_
        by_cases h2 : ((decide (l[j].f2.f1 < markFrom low (l.take j))) == b) = true
        · simp only [if_pos h2]
          have := ih (j + 1) (xs ++ [l[j].f2]) (by omega) (by omega) (by simp; omega)
          rw [hm', List.append_assoc, List.singleton_append] at this
          refine Ev.congr (fun k => ?_) this
          rw [if_pos (by omega)]
        · simp only [if_neg h2]
          have := ih (j + 1) xs (by omega) (by omega) (by omega)
          rw [hm'] at this
          exact this
theorem records_ev (l : List S40) (hl : l.length ≤ 60) (b : Bool) : Ev (fun k => tailwaterref20_Records.f k l b) (recFrom b low l) := by
  exact records_loop l hl b _ 0 [] rfl (by omega) (by simp)
def splitOf (l : List S40) : List S38 × List S38 × Int := if errOf l = 0 then (recFrom false low l, recFrom true low l, 0) else ([], [], errOf l)
theorem late_split_ev (l : List S40) (hl : l.length ≤ 9223372036854775807) : Ev (fun k => late_Split.f k l) (splitOf l) := by
  unfold late_Split.f splitOf
  refine Ev.bind (late_check_ev l hl) ?_
  by_cases h : errOf l = 0
  · simp only [if_pos h]
    exact late_split_loop l (errOf_len h) _ 0 low [] [] rfl (by omega) (by simp) (by simp)
  · simp only [if_neg h]; exact Ev.now _
theorem ref_split_ev (l : List S40) (hl : l.length ≤ 9223372036854775807) : Ev (fun k => tailwaterref20_Split.f k l) (splitOf l) := by
  unfold tailwaterref20_Split.f splitOf
  refine Ev.bind (ref_check_ev l hl) ?_
  by_cases h : errOf l = 0
  · simp only [if_pos h]; exact Ev.bind (records_ev l (errOf_len h) false) (Ev.bind (records_ev l (errOf_len h) true) (Ev.now _))
  · simp only [if_neg h]; exact Ev.now _
theorem recFrom_length (b : Bool) (l : List S40) : ∀ m, (recFrom b m l).length ≤ l.length := by
  induction l with
  | nil => intro m; simp [recFrom]
  | cons x xs ih =>
    intro m; unfold recFrom
    split
    · have := ih (Raised m x); simp; omega
    · split
      · have := ih m; simp; omega
      · have := ih m; simp; omega
end Go.Proofs.Ytdmaedaobjcocaa.Q
