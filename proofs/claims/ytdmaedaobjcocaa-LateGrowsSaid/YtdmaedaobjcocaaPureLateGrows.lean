/- Marks never decrease along the events; a mark that is not greater than one before it changes nothing. No condition but the machine's bound on lengths. -/
import Derived.Test.YtdmaedaobjcocaaQ9
import Derived.Test.YtdmaedaobjcocaaPlain
namespace Go.Proofs.Ytdmaedaobjcocaa.Q
open Go.RowKit Go.Proofs.YtdmaedaobjcocaaW.PrintWords Go.Proofs.YtdmaedaobjcocaaW.PrintLast Go.Proofs.YtdmaedaobjcocaaW.PrintMore
set_option linter.unusedVariables false
set_option linter.unusedSimpArgs false
theorem valid_ev_mk (t : Int) : Ev (fun k => tailwaterref20_Valid.f k true t 0 0 0) (valid (mkE t)) := valid_ev (mkE t)
theorem mx_le {m t : Int} (h : t ≤ m) : mx m t = m := by unfold mx; rw [if_neg (by omega)]
theorem grows_mark (l : List S40) (c : Nat) (t : Int) (ht : t ≤ markFrom low (l.take c)) : markFrom low (l.take c ++ [mkE t] ++ l.drop c) = markFrom low l := by
  rw [markFrom_append, markFrom_append]
  show markFrom (Raised (markFrom low (l.take c)) (mkE t)) (l.drop c) = _
  rw [raised_mk, mx_le ht, ← markFrom_append, List.take_append_drop]
theorem grows_rec (b : Bool) (l : List S40) (c : Nat) (t : Int) (ht : t ≤ markFrom low (l.take c)) : recFrom b low (l.take c ++ [mkE t] ++ l.drop c) = recFrom b low l := by
  rw [recFrom_append, recFrom_append, markFrom_append]
  show (recFrom b low (l.take c) ++ recFrom b (markFrom low (l.take c)) (mkE t :: [])) ++ recFrom b (Raised (markFrom low (l.take c)) (mkE t)) (l.drop c) = _
  rw [recFrom_mk, raised_mk, mx_le ht, recFrom, List.append_nil, ← recFrom_append, List.take_append_drop]
theorem grows_stop (l : List S40) (a t last : Int) : Ev (fun k => tailwaterlaw20_LateGrows.j2 k l a t true last 0 true) true := by
  refine Ev.step (fun k => ?_) (Ev.now _)
  rw [tailwaterlaw20_LateGrows.j2, if_pos rfl, if_pos rfl]; rfl
theorem grows_end (l : List S40) (c : Nat) (t : Int) (h : errOf l = 0) (h60 : l.length < 60) (hc : c ≤ l.length) (ht : t ≤ markFrom low (l.take c)) (hv : valid (mkE t) = true) : Ev (fun k => tailwaterlaw20_LateGrows.j2 k l (c : Int) t true (markFrom low l) 0 false) true := by
  have hz := errOf_zero.1 h
  have hg : errOf (l.take c ++ [mkE t] ++ l.drop c) = 0 := errOf_zero.2 ⟨by simp; omega, fun x hx => by
    rcases List.mem_append.1 hx with hx | hx
    · rcases List.mem_append.1 hx with hx | hx
      · exact hz.2 x (List.mem_of_mem_take hx)
      · rw [List.mem_singleton.1 hx]; exact hv
    · exact hz.2 x (List.mem_of_mem_drop hx)⟩
  refine Ev.step (f := fun k => (late_Mark.f k (l.take c ++ [mkE t] ++ l.drop c)).bind fun bt438 => ((late_Split.f k l).bind fun bt440 => ((late_Split.f k (l.take c ++ [mkE t] ++ l.drop c)).bind fun bt447 => (if true = true then (if bt438.2 = 0 then (if bt438.1 = markFrom low l then (if bt440.2.2 = 0 then (if bt447.2.2 = 0 then ((tailwaterref20_Same.f k bt440.1 bt447.1).bind fun t454 => (if t454 = true then ((tailwaterref20_Same.f k bt440.2.1 bt447.2.1).bind fun t455 => (some t455)) else (some false))) else (some false)) else (some false)) else (some false)) else (some false)) else (some false))))) (fun k => ?_) ?_
  · rw [tailwaterlaw20_LateGrows.j2, if_neg (by decide)]
    simp only [Option.bind_some, List.nil_append, List.length_nil, Nat.zero_add, Int.toNat_natCast, tailwaterlaw20_mark.f]
    rw [if_pos (by omega), if_pos (by omega)]
    simp only [if_pos (show (l.take c).length < 3518437208883 by simp; omega)]
    rw [if_pos (by simp; omega)]
    rfl
  · have q1 := recFrom_length false l low
    have q2 := recFrom_length true l low
    refine Ev.bind (markOf_good hg ▸ late_mark_ev _ (by simp; omega)) (Ev.bind (splitOf_good h ▸ late_split_ev l (by omega)) (Ev.bind (splitOf_good hg ▸ late_split_ev _ (by simp; omega)) ?_))
    rw [grows_mark l c t ht, grows_rec false l c t ht, grows_rec true l c t ht]
    simp only [if_true]
    refine Ev.bind (same_ev _ (by omega)) ?_
    simp only [if_true]
    exact Ev.bind (same_ev _ (by omega)) (Ev.now _)
theorem take_mono (l : List S40) (j : Nat) : markFrom low (l.take j) ≤ markFrom low (l.take (j + 1)) := by
  by_cases h : j < l.length
  · rw [mark_snoc low l j h]; exact raised_ge _ _
  · rw [List.take_of_length_le (by omega), List.take_of_length_le (by omega)]; exact Int.le_refl _
theorem grows_loop (l : List S40) (c : Nat) (t : Int) (h : errOf l = 0) (h60 : l.length < 60) (hc : c ≤ l.length) (d : Nat) : ∀ (j : Nat) (last : Int), l.length + 1 - j = d → j ≤ l.length + 1 → last ≤ markFrom low (l.take j) → (j = l.length + 1 → last = markFrom low l) → Ev (fun k => tailwaterlaw20_LateGrows.l0 k l (c : Int) t true last (j : Int)) true := by
  have hz := errOf_zero.1 h
  induction d with
  | zero =>
    intro j last hd hj _ he
    obtain rfl : j = l.length + 1 := by omega
    obtain rfl := he rfl
    refine Ev.step (f := fun k => (late_Mark.f k (l.take c)).bind fun bt405 => (if bt405.2 = 0 then (if t > bt405.1 then (tailwaterlaw20_LateGrows.j2 k l (c : Int) t true (markFrom low l) bt405.2 true) else ((tailwaterref20_Valid.f k true t 0 0 0).bind fun t412 => (tailwaterlaw20_LateGrows.j2 k l (c : Int) t true (markFrom low l) bt405.2 (!t412)))) else (tailwaterlaw20_LateGrows.j2 k l (c : Int) t true (markFrom low l) bt405.2 true))) (fun k => ?_) ?_
    · rw [tailwaterlaw20_LateGrows.l0, if_neg (by omega), if_pos (by omega), if_pos (by omega)]
      simp only [Option.bind_some, tailwaterlaw20_mark.f, Int.toNat_natCast]
    · refine Ev.bind (markOf_good (good_take h c) ▸ late_mark_ev _ (by simp; omega)) ?_
      simp only [if_true]
      by_cases ht : t > markFrom low (l.take c)
      · simp only [if_pos ht]; exact grows_stop _ _ _ _
      · simp only [if_neg ht]
        refine Ev.bind (valid_ev_mk t) ?_
        cases hv : valid (mkE t)
        · exact grows_stop _ _ _ _
        · exact grows_end l c t h h60 hc (by omega) hv
  | succ d ih =>
    intro j last hd hj hlast _
    refine Ev.step (f := fun k => (late_Mark.f k (l.take j)).bind fun bt399 => (if bt399.2 = 0 then (if bt399.1 < last then (some false) else (tailwaterlaw20_LateGrows.l0 k l (c : Int) t true bt399.1 ((j + 1 : Nat) : Int))) else (some false))) (fun k => ?_) ?_
    · rw [tailwaterlaw20_LateGrows.l0, if_pos (by omega), if_pos (by omega), show wrap64 ((j : Int) + 1) = ((j + 1 : Nat) : Int) by unfold wrap64; omega]
      simp only [Int.toNat_natCast]
    · refine Ev.bind (markOf_good (good_take h j) ▸ late_mark_ev _ (by simp; omega)) ?_
      simp only [if_true, if_neg (show ¬ markFrom low (l.take j) < last by omega)]
      refine ih (j + 1) _ (by omega) (by omega) (take_mono l j) (fun e => ?_)
      rw [List.take_of_length_le (by omega)]
theorem LateGrows (l : List S40) (a t : Int) (hl : l.length ≤ 9223372036854775807) (_ : (Lit.int .i64 a).wf = true) (_ : (Lit.int .i64 t).wf = true) : ∃ k, tailwaterlaw20_LateGrows.f k l a t = some true := by
  refine Ev.rounds (g := fun k => tailwaterlaw20_LateGrows.f k l a t) ?_
  unfold tailwaterlaw20_LateGrows.f
  refine Ev.bind alive_ev (Ev.bind (ref_check_ev l hl) ?_)
  have stop : Ev (fun k => tailwaterlaw20_LateGrows.j0 k l a t true true) true := by
    refine Ev.step (fun k => ?_) (Ev.now _)
    rw [tailwaterlaw20_LateGrows.j0, if_pos rfl]
  by_cases h : errOf l = 0
  · simp only [if_pos h]
    by_cases h60 : (l.length : Int) ≥ 60
    · simp only [if_pos h60]; exact stop
    · simp only [if_neg h60]
      by_cases h0 : a < 0
      · simp only [if_pos h0]; exact stop
      · simp only [if_neg h0]
        by_cases h1 : a > (l.length : Int)
        · simp only [if_pos h1]; exact stop
        · simp only [if_neg h1]
          obtain ⟨c, rfl⟩ := Int.eq_ofNat_of_zero_le (show 0 ≤ a by omega)
          refine Ev.step (f := fun k => tailwaterlaw20_LateGrows.l0 k l (c : Int) t true low ((0 : Nat) : Int)) (fun k => ?_) ?_
          · rw [tailwaterlaw20_LateGrows.j0, if_neg (by decide)]; rfl
          · exact grows_loop l c t h (by omega) (by omega) _ 0 low rfl (by omega) (by simp [markFrom]) (fun e => by omega)
  · simp only [if_neg h]; exact stop
end Go.Proofs.Ytdmaedaobjcocaa.Q
