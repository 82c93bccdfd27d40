/- What the functions of channel and of its reference compute, as plain functions on lists of messages. No Go, no memory. -/
import Derived.Test.YtiilljmhddjmeaaF11
import Derived.Test.YtiilljmhddjmeaaF13
import Derived.Test.YtiilljmhddjmeaaF16
import Derived.Test.YtiilljmhddjmeaaF18
import Derived.Test.YtiilljmhddjmeaaF20
import Derived.Test.YtiilljmhddjmeaaF27
import Derived.Test.YtiilljmhddjmeaaF31
import Derived.Test.YtiilljmhddjmeaaF32
import Derived.Test.YtiilljmhddjmeaaQ0
namespace Go.Proofs.Ytiilljmhddjmeaa.Q
open Go.RowKit Go.Proofs.YtiilljmhddjmeaaW.PrintWords Go.Proofs.YtiilljmhddjmeaaW.PrintLast
set_option linter.unusedVariables false
set_option linter.unusedSimpArgs false
def tm (t : Int) : Bool := decide (-1099511627776 ≤ t) && decide (t ≤ 1099511627776)
def mk (t : Int) : Bool := tm t || t == 9223372036854775807
def z3 (a b c : Int) : Bool := a == 0 && (b == 0 && c == 0)
def z5 (p q r s u : Int) : Bool := p == 0 && ((q == 0 && r == 0) && (s == 0 && u == 0))
def rowOk (q r : Int) : Bool := decide (-2199023255552 ≤ q) && (decide (q < r) && decide (r ≤ 2199023255552))
def valid (f a b c t p q r s u : Int) : Bool := if f = 1 ∨ f = 4 then tm b && (t == 0 && z5 p q r s u) else if f = 2 then mk t && (z3 a b c && z5 p q r s u) else if f = 3 then rowOk q r && (z3 a b c && t == 0) else false
def ok (x : S35) : Bool := valid x.f0 x.f1.f0 x.f1.f1 x.f1.f2 x.f2 x.f3.f0 x.f3.f1.f0 x.f3.f1.f1 x.f3.f2.f0 x.f3.f2.f1
theorem time_eq (t : Int) : message_isTime.f t = some (tm t) := by
  unfold message_isTime.f tm
  by_cases h : t ≥ -1099511627776
  · rw [if_pos h]; simp [h]
  · rw [if_neg h]; simp; omega
theorem mark_eq (t : Int) : message_isMark.f t = some (mk t) := by
  unfold message_isMark.f mk
  rw [time_eq, Option.bind_some]
  cases tm t <;> simp
theorem if_not (b : Bool) : (if (!b) = true then some (8 : Int) else some 0) = some (if b = true then 0 else 8) := by cases b <;> rfl
theorem mcheck_ev (f a b c t p q r s u : Int) : Ev (fun k => message_Check.f k f a b c t p q r s u) (if valid f a b c t p q r s u = true then 0 else 8) := by
  refine ⟨1, fun k hk => ?_⟩
  obtain ⟨k, rfl⟩ : ∃ m, k = m + 1 := ⟨k - 1, by omega⟩
  unfold message_Check.f
  have main : ∀ e : Bool, e = (f == 1 || f == 4) → message_Check.j0 (k + 1) false f e f a b c t p q r s u f 0 0 0 0 0 0 0 0 0 = some (if valid f a b c t p q r s u = true then 0 else 8) := by
    intro e he
    rw [message_Check.j0, time_eq, mark_eq]
    simp only [Option.bind_some, beq_self_eq_true, Bool.not_true, Bool.false_or, ← Bool.not_and, if_not]
    unfold valid
    by_cases h1 : f = 1 ∨ f = 4
    · rw [if_pos (show e = true by rw [he]; simpa using h1)]
      simp only [if_pos h1]
      unfold z5
      cases tm b <;> simp
    · rw [if_neg (show ¬ e = true by rw [he]; simpa using h1)]
      simp only [if_neg h1]
      by_cases h2 : f = 2
      · simp only [if_pos h2]
        unfold z3 z5
        cases mk t <;> simp
      · simp only [if_neg h2]
        by_cases h3 : f = 3
        · simp only [if_pos h3]
          unfold z3 rowOk
          by_cases g1 : -2199023255552 ≤ q
          · by_cases g2 : q < r
            · by_cases g3 : r ≤ 2199023255552
              · simp [g1, g2, g3]
              · simp [g1, g2, g3]
            · simp [g1, g2]
          · simp [g1]
        · simp only [if_neg h3]
          simp
  dsimp only
  by_cases h : f = 1
  · rw [if_pos h]; exact main _ (by simp [h])
  · rw [if_neg h]; exact main _ (by simp [h])

theorem wrap_next {j n : Nat} (h : j < n) (hn : n ≤ 9223372036854775807) : wrap64 ((j : Int) + 1) = ((j + 1 : Nat) : Int) := by unfold wrap64; omega
theorem rd_at {l : List S35} {j : Nat} (h : j < l.length) : rd_T35 l (j : Int) = l[j] := by simp [rd_T35, h]
def chkL (l : List S35) : Int := if l.all ok = true then 0 else 8
def chk (room : Int) (l : List S35) : Int := if room < 1 ∨ 8 < room ∨ room < l.length then 8 else chkL l
theorem chkL_cons (x : S35) (l : List S35) : chkL (x :: l) = if ok x = true then chkL l else 8 := by
  unfold chkL; rw [List.all_cons]; cases ok x <;> simp
theorem check_loop (l : List S35) (hl : l.length ≤ 8) (d : Nat) : ∀ j : Nat, l.length - j = d → j ≤ l.length → Ev (fun k => channel_Check.l0 k l (l.length : Int) (j : Int)) (chkL (l.drop j)) := by
  induction d with
  | zero =>
    intro j hd hj
    obtain rfl : j = l.length := by omega
    refine Ev.step (fun k => ?_) (Ev.now _)
    rw [channel_Check.l0, if_neg (by omega), List.drop_length]; rfl
  | succ d ih =>
    intro j hd hj
    have hlt : j < l.length := by omega
    have hn := ih (j + 1) (by omega) (by omega)
    have hw := wrap_next hlt (by omega)
    rw [List.drop_eq_getElem_cons hlt, chkL_cons]
    refine Ev.step (f := fun k => (message_Check.f k (l[j].f0) (l[j].f1.f0) (l[j].f1.f1) (l[j].f1.f2) (l[j].f2) (l[j].f3.f0) (l[j].f3.f1.f0) (l[j].f3.f1.f1) (l[j].f3.f2.f0) (l[j].f3.f2.f1)).bind fun t => (if t = 0 then channel_Check.l0 k l (l.length : Int) ((j + 1 : Nat) : Int) else some t)) (fun k => ?_) ?_
    · rw [channel_Check.l0, if_pos (by omega), if_pos (by omega), if_pos (by omega), rd_at hlt, hw]
    · refine Ev.bind (mcheck_ev _ _ _ _ _ _ _ _ _ _) ?_
      unfold ok
      cases valid (l[j].f0) (l[j].f1.f0) (l[j].f1.f1) (l[j].f1.f2) (l[j].f2) (l[j].f3.f0) (l[j].f3.f1.f0) (l[j].f3.f1.f1) (l[j].f3.f2.f0) (l[j].f3.f2.f1)
      · exact Ev.now _
      · exact hn
theorem check_j (room : Int) (l : List S35) (e : Bool) : Ev (fun k => channel_Check.j0 k e room l) (if e = true then 8 else chkL l) ∨ 8 < l.length := by
  by_cases hl : l.length ≤ 8
  · left
    cases e
    · exact Ev.step (f := fun k => channel_Check.l0 k l (l.length : Int) 0) (fun k => by rw [channel_Check.j0, if_neg (by decide)]) (check_loop l hl _ 0 rfl (by omega))
    · exact Ev.step (f := fun k => some 8) (fun k => by rw [channel_Check.j0, if_pos rfl]) (Ev.now _)
  · exact .inr (by omega)
theorem check_t (room : Int) (l : List S35) : Ev (fun k => channel_Check.j0 k true room l) 8 :=
  Ev.step (f := fun k => some 8) (fun k => by rw [channel_Check.j0, if_pos rfl]) (Ev.now _)
theorem check_ev (room : Int) (l : List S35) : Ev (fun k => channel_Check.f k room l) (chk room l) := by
  unfold channel_Check.f chk
  by_cases h1 : room < 1
  · simp only [if_pos h1]; rw [if_pos (.inl h1)]; exact check_t room l
  · simp only [if_neg h1]
    by_cases h2 : room > 8
    · simp only [if_pos h2]; rw [if_pos (.inr (.inl h2))]; exact check_t room l
    · simp only [if_neg h2]
      by_cases h3 : (l.length : Int) > room
      · rw [decide_eq_true h3, if_pos (.inr (.inr h3))]; exact check_t room l
      · rw [decide_eq_false h3, if_neg (by omega)]
        exact Ev.step (f := fun k => channel_Check.l0 k l (l.length : Int) 0) (fun k => by rw [channel_Check.j0, if_neg (by decide)]) (check_loop l (by omega) _ 0 rfl (by omega))
theorem chk_small {room : Int} {l : List S35} (h : chk room l = 0) : 1 ≤ room ∧ room ≤ 8 ∧ (l.length : Int) ≤ room := by
  unfold chk at h
  split at h
  · exact absurd h (by decide)
  · omega
def leftOf (room : Int) (l : List S35) : Int × Int := if chk room l = 0 then (wrap64 (room - (l.length : Int)), 0) else (0, chk room l)
theorem left_ev (room : Int) (l : List S35) : Ev (fun k => channel_Left.f k room l) (leftOf room l) := by
  unfold channel_Left.f leftOf
  refine Ev.bind (check_ev room l) ?_
  by_cases h : chk room l = 0
  · simp only [if_pos h]; exact Ev.now _
  · simp only [if_neg h]; exact Ev.now _
def takeOf (room : Int) (l : List S35) : Int × Int × Int × Int × Int × Int × Int × Int × Int × Int × Int × List S35 × Int :=
  if chk room l = 0 then (if (l.length : Int) = 0 then (0, 0, 0, 0, 0, 0, 0, 0, 0, 0, 0, [], 6) else ((rd_T35 l 0).f0, (rd_T35 l 0).f1.f0, (rd_T35 l 0).f1.f1, (rd_T35 l 0).f1.f2, (rd_T35 l 0).f2, (rd_T35 l 0).f3.f0, (rd_T35 l 0).f3.f1.f0, (rd_T35 l 0).f3.f1.f1, (rd_T35 l 0).f3.f2.f0, (rd_T35 l 0).f3.f2.f1, room, l.drop 1, 0)) else (0, 0, 0, 0, 0, 0, 0, 0, 0, 0, 0, [], chk room l)
theorem take_ev (room : Int) (l : List S35) : Ev (fun k => channel_Take.f k room l) (takeOf room l) := by
  unfold channel_Take.f takeOf
  refine Ev.bind (check_ev room l) ?_
  by_cases h : chk room l = 0
  · have hs := chk_small h
    simp only [if_pos h]
    by_cases h0 : (l.length : Int) = 0
    · simp only [if_pos h0]; exact Ev.now _
    · simp only [if_neg h0, Option.bind_some, List.nil_append, List.length_nil, Nat.zero_add]
      rw [if_pos (by omega), if_pos (by omega), if_pos (by omega)]
      exact Ev.now _
  · simp only [if_neg h]; exact Ev.now _
theorem take_len (room : Int) (l : List S35) : (takeOf room l).2.2.2.2.2.2.2.2.2.2.2.1.length ≤ 8 := by
  unfold takeOf
  by_cases h : chk room l = 0
  · have := chk_small h
    rw [if_pos h]
    split
    · simp
    · simp only [List.length_drop]; omega
  · rw [if_neg h]; simp
def putOf (room : Int) (l : List S35) (x : S35) : Int × List S35 × Int :=
  if chk room l = 0 then (if ok x = true then (if (l.length : Int) = room then (0, [], 18) else (room, l ++ [x], 0)) else (0, [], 8)) else (0, [], chk room l)
theorem put_ev (room : Int) (l : List S35) (x : S35) : Ev (fun k => channel_Put.f k room l x.f0 x.f1.f0 x.f1.f1 x.f1.f2 x.f2 x.f3.f0 x.f3.f1.f0 x.f3.f1.f1 x.f3.f2.f0 x.f3.f2.f1) (putOf room l x) := by
  unfold channel_Put.f putOf
  refine Ev.bind (check_ev room l) ?_
  by_cases h : chk room l = 0
  · have hs := chk_small h
    simp only [if_pos h]
    refine Ev.bind (mcheck_ev _ _ _ _ _ _ _ _ _ _) ?_
    show Ev _ (if ok x = true then _ else _)
    have ho : valid x.f0 x.f1.f0 x.f1.f1 x.f1.f2 x.f2 x.f3.f0 x.f3.f1.f0 x.f3.f1.f1 x.f3.f2.f0 x.f3.f2.f1 = ok x := rfl
    rw [ho]
    cases ok x
    · exact Ev.now _
    · simp only [if_true]
      by_cases h0 : (l.length : Int) = room
      · simp only [if_pos h0]; exact Ev.now _
      · simp only [if_neg h0, Option.bind_some, List.nil_append, List.length_nil, Nat.zero_add]
        rw [if_pos (by omega), if_pos (by omega)]
        exact Ev.now _
  · simp only [if_neg h]; exact Ev.now _
def newOf (room : Int) : Int × List S35 × Int := if 1 ≤ room ∧ room ≤ 8 then (room, [], 0) else (0, [], 2)
theorem new_eq (room : Int) : channel_New.f room = some (newOf room) := by
  unfold channel_New.f newOf
  by_cases h : room < 1
  · rw [if_pos h, if_neg (by omega)]
  · rw [if_neg h]
    by_cases h2 : room > 8
    · rw [if_pos h2, if_neg (by omega)]
    · rw [if_neg h2, if_pos (by omega)]
theorem put_len (room : Int) (l : List S35) (x : S35) : (putOf room l x).2.1.length ≤ 9 := by
  unfold putOf
  by_cases h : chk room l = 0
  · have := chk_small h
    rw [if_pos h]
    split
    · split
      · simp
      · simp only [List.length_append, List.length_singleton]; omega
    · simp
  · rw [if_neg h]; simp
theorem new_len (room : Int) : (newOf room).2.1.length ≤ 9 := by
  unfold newOf; split <;> simp
end Go.Proofs.Ytiilljmhddjmeaa.Q
