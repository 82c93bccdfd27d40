/- Plain laws of marks and of late records over lists of events. No Go, no memory. -/
import Derived.Test.YtdmaedaobjcocaaSpec
import Derived.Test.YtdmaedaobjcocaaQ6
namespace Go.Proofs.Ytdmaedaobjcocaa.Q
open Go.RowKit Go.Proofs.YtdmaedaobjcocaaW.PrintWords Go.Proofs.YtdmaedaobjcocaaW.PrintLast Go.Proofs.YtdmaedaobjcocaaW.PrintMore
set_option linter.unusedVariables false
set_option linter.unusedSimpArgs false

theorem errOf_zero {l : List S40} : errOf l = 0 ↔ l.length ≤ 60 ∧ ∀ x ∈ l, valid x = true := by
  unfold errOf chk
  by_cases h : 60 < l.length
  · rw [if_pos h]; constructor
    · intro h2; cases h2
    · intro h2; omega
  · rw [if_neg h]
    by_cases h2 : l.all valid = true
    · rw [if_pos h2]; exact ⟨fun _ => ⟨by omega, List.all_eq_true.1 h2⟩, fun _ => rfl⟩
    · rw [if_neg h2]; constructor
      · intro h3; cases h3
      · intro h3; exact absurd (List.all_eq_true.2 h3.2) h2
theorem markFrom_append (m : Int) (xs ys : List S40) : markFrom m (xs ++ ys) = markFrom (markFrom m xs) ys := by unfold markFrom; rw [List.foldl_append]
theorem recFrom_append (b : Bool) (xs ys : List S40) : ∀ m, recFrom b m (xs ++ ys) = recFrom b m xs ++ recFrom b (markFrom m xs) ys := by
  induction xs with
  | nil => intro m; rfl
  | cons x xs ih =>
    intro m
    rw [List.cons_append, recFrom, recFrom, mark_cons]
    by_cases h : x.f0 = true
    · rw [if_pos h, if_pos h, ih]
    · rw [if_neg h, if_neg h, show Raised m x = m by unfold Raised; rw [if_neg h]]
      split
      · rw [ih, List.cons_append]
      · rw [ih]
theorem raised_ge (m : Int) (x : S40) : m ≤ Raised m x := by unfold Raised mx; split <;> (try split) <;> omega
theorem markFrom_ge (l : List S40) : ∀ m, m ≤ markFrom m l := by
  induction l with
  | nil => intro m; exact Int.le_refl _
  | cons x xs ih => intro m; rw [mark_cons]; exact Int.le_trans (raised_ge m x) (ih _)
def mkE (t : Int) : S40 := ⟨true, t, ⟨0, 0, 0⟩⟩
theorem recFrom_mk (b : Bool) (m t : Int) (l : List S40) : recFrom b m (mkE t :: l) = recFrom b (mx m t) l := by rw [recFrom]; exact if_pos rfl
theorem raised_mk (m t : Int) : Raised m (mkE t) = mx m t := rfl
theorem valid_mk {t : Int} : valid (mkE t) = true ↔ (t = 9223372036854775807 ∨ tm t = true) := by
  unfold valid mkE
  simp
theorem valid_mark {x : S40} (h : valid x = true) (hf : x.f0 = true) : x.f1 = 9223372036854775807 ∨ tm x.f1 = true := by
  unfold valid at h
  rw [if_pos hf] at h
  simp only [Bool.and_eq_true, Bool.or_eq_true, beq_iff_eq] at h
  exact h.2
theorem valid_rec {x : S40} (h : valid x = true) (hf : ¬ x.f0 = true) : tm x.f2.f1 = true := by
  unfold valid at h
  rw [if_neg hf] at h
  simp only [Bool.and_eq_true] at h
  exact h.2
theorem tm_bounds {t : Int} (h : tm t = true) : -1099511627776 ≤ t ∧ t ≤ 1099511627776 := by
  unfold tm at h
  simpa using h
/-- A mark behind valid events is the lowest one, or a right one. -/
def Right (m : Int) : Prop := m = low ∨ m = 9223372036854775807 ∨ tm m = true
theorem right_raised {m : Int} {x : S40} (hm : Right m) (h : valid x = true) : Right (Raised m x) := by
  unfold Raised
  by_cases hf : x.f0 = true
  · rw [if_pos hf]
    unfold mx
    split
    · exact .inr (valid_mark h hf)
    · exact hm
  · rw [if_neg hf]; exact hm
theorem right_mark (l : List S40) : ∀ m, Right m → (∀ x ∈ l, valid x = true) → Right (markFrom m l) := by
  induction l with
  | nil => intro m h _; exact h
  | cons x xs ih => intro m h hv; rw [mark_cons]; exact ih _ (right_raised h (hv x (by simp))) (fun y hy => hv y (by simp [hy]))
theorem right_ge {m : Int} (h : Right m) : low ≤ m := by
  unfold low
  rcases h with h | h | h
  · rw [h]; decide
  · rw [h]; decide
  · have := tm_bounds h; omega
theorem right_valid {m : Int} (h : Right m) (hn : ¬ m = low) : valid (mkE m) = true := valid_mk.2 (h.resolve_left hn)
theorem markOf_good {l : List S40} (h : errOf l = 0) : markOf l = (markFrom low l, 0) := by unfold markOf; rw [if_pos h]
theorem splitOf_good {l : List S40} (h : errOf l = 0) : splitOf l = (recFrom false low l, recFrom true low l, 0) := by unfold splitOf; rw [if_pos h]
theorem good_take {l : List S40} (h : errOf l = 0) (n : Nat) : errOf (l.take n) = 0 := by
  have h := errOf_zero.1 h
  exact errOf_zero.2 ⟨by simp; omega, fun x hx => h.2 x (List.mem_of_mem_take hx)⟩
theorem same_loop (l : List S38) (hl : l.length ≤ 9223372036854775807) (d : Nat) : ∀ j : Nat, l.length - j = d → j ≤ l.length → Ev (fun k => tailwaterref20_Same.l0 k l l (j : Int)) true := by
  induction d with
  | zero =>
    intro j hd hj
    refine Ev.step (fun k => ?_) (Ev.now _)
    rw [tailwaterref20_Same.l0, if_neg (by omega)]
  | succ d ih =>
    intro j hd hj
    have hlt : j < l.length := by omega
    refine Ev.step (fun k => ?_) (ih (j + 1) (by omega) (by omega))
    rw [tailwaterref20_Same.l0, if_pos (by omega), if_pos (by omega), if_pos (by omega), wrap_next hlt hl, if_neg (by simp)]
theorem same_ev (l : List S38) (hl : l.length ≤ 9223372036854775807) : Ev (fun k => tailwaterref20_Same.f k l l) true := by
  unfold tailwaterref20_Same.f
  simp only [if_true]
  exact same_loop l hl _ 0 rfl (by omega)
theorem alive_ev : Ev (fun k => tailwaterlaw20_alive.f k) true := Ev.of tailwaterlaw20_alive.mono (k := 40) (by decide +kernel)
end Go.Proofs.Ytdmaedaobjcocaa.Q
