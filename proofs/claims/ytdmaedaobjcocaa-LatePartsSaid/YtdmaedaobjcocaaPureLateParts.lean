/- The records of two parts of the events are those of both, with the mark behind the first part ahead of the second one. No condition but the machine's bound on lengths. -/
import Derived.Test.YtdmaedaobjcocaaQ11
import Derived.Test.YtdmaedaobjcocaaPlain
namespace Go.Proofs.Ytdmaedaobjcocaa.Q
open Go.RowKit Go.Proofs.YtdmaedaobjcocaaW.PrintWords Go.Proofs.YtdmaedaobjcocaaW.PrintLast Go.Proofs.YtdmaedaobjcocaaW.PrintMore
set_option linter.unusedVariables false
set_option linter.unusedSimpArgs false
theorem parts_rec (b : Bool) (l : List S40) (c : Nat) : recFrom b low (l.take c) ++ recFrom b (markFrom low (l.take c)) (l.drop c) = recFrom b low l := by
  rw [← recFrom_append, List.take_append_drop]
theorem parts_mark (l : List S40) (c : Nat) : markFrom (markFrom low (l.take c)) (l.drop c) = markFrom low l := by
  rw [← markFrom_append, List.take_append_drop]
theorem low_mx {m : Int} (h : low ≤ m) : mx low m = m := by unfold mx; split <;> omega
/-- Behind the join: whatever the second part is, as long as it is good and tells these records and this mark. -/
theorem parts_join (l : List S40) (c : Nat) (second : List S40) (h : errOf l = 0) (hc : c ≤ l.length) (hs : errOf second = 0)
    (hr : ∀ b, recFrom b low second = recFrom b (markFrom low (l.take c)) (l.drop c)) (hm : markFrom low second = markFrom low l) : Ev (fun k => tailwaterlaw20_LateParts.j1 k l (c : Int) true 0 second) true := by
  have hz := errOf_zero.1 h
  have hz2 := errOf_zero.1 hs
  refine Ev.step (f := fun k => (late_Split.f k (l.take c)).bind fun bt528 => ((late_Split.f k second).bind fun bt535 => ((late_Split.f k l).bind fun bt542 => ((late_Mark.f k second).bind fun bt549 => ((late_Mark.f k l).bind fun bt551 => (if true = true then (if (0 : Int) = 0 then (if bt528.2.2 = 0 then (if bt535.2.2 = 0 then (if bt542.2.2 = 0 then (if bt549.2 = 0 then (if bt551.2 = 0 then ((some (([] : List (S38)) : List (S38))).bind fun y553 => (if y553.length + bt528.1.length < 5864062014805 then ((some (y553 ++ bt528.1 : List (S38))).bind fun y556 => (if y556.length + bt535.1.length < 5864062014805 then ((tailwaterref20_Same.f k (y556 ++ bt535.1) bt542.1).bind fun t562 => (if t562 = true then ((some (([] : List (S38)) : List (S38))).bind fun y563 => (if y563.length + bt528.2.1.length < 5864062014805 then ((some (y563 ++ bt528.2.1 : List (S38))).bind fun y566 => (if y566.length + bt535.2.1.length < 5864062014805 then ((tailwaterref20_Same.f k (y566 ++ bt535.2.1) bt542.2.1).bind fun t572 => (if t572 = true then (some (bt549.1 == bt551.1)) else (some false))) else (none))) else (none))) else (some false))) else (none))) else (none))) else (some false)) else (some false)) else (some false)) else (some false)) else (some false)) else (some false)) else (some false))))))) (fun k => ?_) ?_
  · rw [tailwaterlaw20_LateParts.j1, if_pos (by omega), if_pos (by omega)]; rfl
  · have q1 := recFrom_length false (l.take c) low
    have q2 := recFrom_length true (l.take c) low
    have q3 := recFrom_length false second low
    have q4 := recFrom_length true second low
    have qt : (l.take c).length ≤ 60 := by simp; omega
    refine Ev.bind (splitOf_good (good_take h c) ▸ late_split_ev _ (by omega)) (Ev.bind (splitOf_good hs ▸ late_split_ev _ (by omega)) (Ev.bind (splitOf_good h ▸ late_split_ev l (by omega)) (Ev.bind (markOf_good hs ▸ late_mark_ev _ (by omega)) (Ev.bind (markOf_good h ▸ late_mark_ev l (by omega)) ?_))))
    simp only [if_true, Option.bind_some, List.nil_append, List.length_nil, Nat.zero_add]
    simp only [if_pos (show (recFrom false low (l.take c)).length < 5864062014805 by omega), if_pos (show (recFrom false low (l.take c)).length + (recFrom false low second).length < 5864062014805 by omega), if_pos (show (recFrom true low (l.take c)).length < 5864062014805 by omega), if_pos (show (recFrom true low (l.take c)).length + (recFrom true low second).length < 5864062014805 by omega)]
    rw [hr false, hr true, parts_rec, parts_rec, hm]
    have q5 := recFrom_length false l low
    have q6 := recFrom_length true l low
    refine Ev.bind (same_ev _ (by omega)) ?_
    simp only [if_true]
    refine Ev.bind (same_ev _ (by omega)) ?_
    simp only [if_true, beq_self_eq_true]
    exact Ev.now _
theorem LateParts (l : List S40) (a : Int) (hl : l.length ≤ 9223372036854775807) (_ : (Lit.int .i64 a).wf = true) : ∃ k, tailwaterlaw20_LateParts.f k l a = some true := by
  refine Ev.rounds (g := fun k => tailwaterlaw20_LateParts.f k l a) ?_
  unfold tailwaterlaw20_LateParts.f
  refine Ev.bind alive_ev (Ev.bind (ref_check_ev l hl) ?_)
  have stop : Ev (fun k => tailwaterlaw20_LateParts.j0 k l a true true) true := by
    refine Ev.step (fun k => ?_) (Ev.now _)
    rw [tailwaterlaw20_LateParts.j0, if_pos rfl]
  by_cases h : errOf l = 0
  · simp only [if_pos h]
    by_cases h60 : (l.length : Int) ≥ 60
    · simp only [if_pos h60]; exact stop
    · simp only [if_neg h60]
      by_cases h0 : a < 0
      · simp only [if_pos h0]; exact stop
      · simp only [if_neg h0]
        by_cases h1 : a > (l.length : Int)
        · simp only [if_pos h1]; exact stop
        · simp only [if_neg h1]
          obtain ⟨c, rfl⟩ := Int.eq_ofNat_of_zero_le (show 0 ≤ a by omega)
          have hz := errOf_zero.1 h
          have hrm := right_mark (l.take c) low (.inl rfl) (fun x hx => hz.2 x (List.mem_of_mem_take hx))
          have hgood : errOf (l.drop c) = 0 := errOf_zero.2 ⟨by simp; omega, fun x hx => hz.2 x (List.mem_of_mem_drop hx)⟩
          refine Ev.step (f := fun k => (late_Mark.f k (l.take c)).bind fun bt501 => if bt501.1 = (-9223372036854775808) then (tailwaterlaw20_LateParts.j1 k l (c : Int) true bt501.2 (l.drop c)) else tailwaterlaw20_LateParts.j1 k l (c : Int) true bt501.2 (mkE bt501.1 :: l.drop c)) (fun k => ?_) ?_
          · rw [tailwaterlaw20_LateParts.j0, if_neg (by decide), if_pos (by omega), if_pos (by omega)]
            simp only [Option.bind_some, List.nil_append, List.length_nil, Nat.zero_add, Int.toNat_natCast, tailwaterlaw20_mark.f]
            simp only [if_pos (show (l.drop c).length < 3518437208883 by simp; omega), List.length_singleton, if_pos (show 1 + (l.drop c).length < 3518437208883 by simp; omega), List.singleton_append]
            rfl
          · refine Ev.bind (markOf_good (good_take h c) ▸ late_mark_ev _ (by simp; omega)) ?_
            by_cases hlow : markFrom low (l.take c) = -9223372036854775808
            · simp only [if_pos hlow]
              refine parts_join l c _ h (by omega) hgood (fun b => by rw [hlow]; rfl) ?_
              rw [← parts_mark l c, hlow]; rfl
            · simp only [if_neg hlow]
              have hge := right_ge hrm
              refine parts_join l c _ h (by omega) (errOf_zero.2 ⟨by simp; omega, fun x hx => ?_⟩) (fun b => ?_) ?_
              · rcases List.mem_cons.1 hx with rfl | hx
                · exact right_valid hrm hlow
                · exact hz.2 x (List.mem_of_mem_drop hx)
              · rw [recFrom_mk, low_mx hge]
              · rw [mark_cons, raised_mk, low_mx hge, parts_mark]
  · simp only [if_neg h]; exact stop
end Go.Proofs.Ytdmaedaobjcocaa.Q
