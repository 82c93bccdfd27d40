/- First in, first out: what the loop of puts and takes answers, for every queue, list of messages and choice of takes. No condition. -/
import Derived.Test.YtiilljmhddjmeaaF5
import Derived.Test.YtiilljmhddjmeaaSpecChk
import Derived.Test.YtiilljmhddjmeaaSpecSame
namespace Go.Proofs.Ytiilljmhddjmeaa.Q
open Go.RowKit Go.Proofs.YtiilljmhddjmeaaW.PrintWords Go.Proofs.YtiilljmhddjmeaaW.PrintLast
set_option linter.unusedVariables false
set_option linter.unusedSimpArgs false
theorem samelist_ev (l : List S35) (hl : l.length ≤ 100) : Ev (fun k => tailwaterref26_SameList.f k l l) true := by
  unfold tailwaterref26_SameList.f
  simp only [if_true]
  exact same_loop l hl _ 0 rfl (by omega)
theorem chk_tail {room : Int} {y : S35} {t : List S35} (hc : chk room (y :: t) = 0) : chk room t = 0 := by
  have hs := chk_small hc
  simp only [List.length_cons] at hs
  unfold chk at hc ⊢
  rw [if_neg (by simp only [List.length_cons]; omega), chkL_cons] at hc
  rw [if_neg (by omega)]
  cases hy : ok y
  · rw [hy, if_neg (by decide)] at hc; exact absurd hc (by decide)
  · rw [hy, if_pos rfl] at hc; exact hc
theorem chk_snoc {room : Int} {x : S35} {t : List S35} (hc : chk room t = 0) (hx : ok x = true) (hf : ¬ (t.length : Int) = room) : chk room (t ++ [x]) = 0 := by
  have hs := chk_small hc
  unfold chk at hc ⊢
  rw [if_neg (by omega)] at hc
  rw [if_neg (by simp only [List.length_append, List.length_singleton]; omega)]
  unfold chkL at hc ⊢
  cases h : t.all ok
  · rw [h, if_neg (by decide)] at hc; exact absurd hc (by decide)
  · rw [List.all_append, h]; simp [hx]
theorem wrap_small {n : Nat} (h : n ≤ 100) : wrap64 ((n : Int) + 1) = ((n + 1 : Nat) : Int) := by unfold wrap64; omega
theorem wrap_gap {a b : Nat} {r : Int} (h : b ≤ a) (ha : a ≤ 100) (e : ((a - b : Nat) : Int) = r) : wrap64 ((a : Int) - (b : Int)) = r := by unfold wrap64; omega
set_option maxHeartbeats 4000000 in
theorem first_loop (l : List S35) (takes : List Bool) (hl : l.length ≤ 30) (ht : takes.length ≤ 60) (room : Int) (d : Nat) : ∀ (i at_ out : Nat) (want lst : List S35), takes.length - i = d → i ≤ takes.length → at_ ≤ l.length → out ≤ want.length → lst = want.drop out → want.length ≤ 8 + at_ → chk room lst = 0 →
    Ev (fun k => tailwaterlaw26_ChannelFirst.l0 k l takes true want (at_ : Int) (out : Int) (i : Int) room lst) true := by
  induction d with
  | zero =>
    intro i at_ out want lst hd hi ha ho hq hw hc
    refine Ev.step (fun k => by rw [tailwaterlaw26_ChannelFirst.l0, if_neg (show ¬ (i : Int) < (takes.length : Int) by omega), if_pos rfl]) ?_
    refine Ev.bind (check_ev room lst) ?_
    simp only [if_pos hc, if_pos (show (out : Int) ≤ (want.length : Int) by omega), if_pos (show (0 : Int) ≤ (out : Int) by omega), Int.toNat_natCast]
    rw [← hq]
    exact Ev.bind (samelist_ev lst (by rw [hq, List.length_drop]; omega)) (Ev.now _)
  | succ d ih =>
    intro i at_ out want lst hd hi ha ho hq hw hc
    have hs := chk_small hc
    have hlen : lst.length = want.length - out := by rw [hq, List.length_drop]
    have hi1 : i ≤ 100 := by omega
    have ha1 : at_ ≤ 100 := by omega
    have ho1 : out ≤ 100 := by omega
    refine Ev.step (fun k => by rw [tailwaterlaw26_ChannelFirst.l0, if_pos (show (i : Int) < (takes.length : Int) by omega), if_pos (show (0 : Int) ≤ (i : Int) by omega), wrap_small hi1, wrap_small ha1, wrap_small ho1]) ?_
    by_cases hb : rdOf false takes (i : Int) = true
    · simp only [if_pos hb]
      cases lst with
      | nil =>
        have e3 : takeOf room [] = (0, 0, 0, 0, 0, 0, 0, 0, 0, 0, 0, [], 6) := by unfold takeOf; rw [if_pos hc]; rfl
        refine Ev.bind (e3 ▸ take_ev room []) ?_
        simp only [List.length_nil] at hlen
        simp only [if_true, if_pos (show (out : Int) = (want.length : Int) by omega), List.length_nil, Int.natCast_zero, bne_self_eq_false]
        refine Ev.step (fun k => by rw [tailwaterlaw26_ChannelFirst.j2, if_neg (by decide), wrap_small hi1]) ?_
        exact ih (i + 1) at_ out want [] (by omega) (by omega) ha ho hq hw hc
      | cons y t =>
        have e3 : takeOf room (y :: t) = (y.f0, y.f1.f0, y.f1.f1, y.f1.f2, y.f2, y.f3.f0, y.f3.f1.f0, y.f3.f1.f1, y.f3.f2.f0, y.f3.f2.f1, room, t, 0) := by unfold takeOf; rw [if_pos hc, if_neg (by simp; omega)]; rfl
        refine Ev.bind (e3 ▸ take_ev room (y :: t)) ?_
        simp only [List.length_cons] at hlen
        have hlt : out < want.length := by omega
        have hq2 := hq
        rw [List.drop_eq_getElem_cons hlt] at hq2
        injection hq2 with hy hr
        have hr1 : rd_T35 want (out : Int) = y := (rd_at hlt).trans hy.symm
        simp only [if_neg (show ¬ (0 : Int) = 6 by decide), if_true, if_neg (show ¬ (out : Int) ≥ (want.length : Int) by omega), if_pos (show (0 : Int) ≤ (out : Int) by omega), if_pos (show (out : Int) < (want.length : Int) by omega), hr1, beq_self_eq_true, Bool.not_true, Bool.or_self, if_neg (show ¬ (false = true) by decide)]
        refine ih (i + 1) at_ (out + 1) want t (by omega) (by omega) ha (by omega) hr hw (chk_tail hc)
    · simp only [if_neg hb]
      by_cases hat : at_ = l.length
      · simp only [if_pos (show (at_ : Int) = (l.length : Int) by omega)]
        exact ih (i + 1) at_ out want lst (by omega) (by omega) ha ho hq hw hc
      · have hlt : at_ < l.length := by omega
        simp only [if_neg (show ¬ (at_ : Int) = (l.length : Int) by omega), if_pos (show (0 : Int) ≤ (at_ : Int) by omega), if_pos (show (at_ : Int) < (l.length : Int) by omega), rd_at hlt]
        refine Ev.bind (put_ev room lst l[at_]) ?_
        have h2 : valid l[at_].f0 l[at_].f1.f0 l[at_].f1.f1 l[at_].f1.f2 l[at_].f2 l[at_].f3.f0 l[at_].f3.f1.f0 l[at_].f3.f1.f1 l[at_].f3.f2.f0 l[at_].f3.f2.f1 = ok l[at_] := rfl
        cases hx : ok l[at_]
        · have e : putOf room lst l[at_] = (0, [], 8) := by unfold putOf; rw [if_pos hc, hx]; rfl
          rw [e]
          simp only [if_neg (show ¬ (8 : Int) = 0 by decide), if_neg (show ¬ (8 : Int) = 18 by decide), if_true]
          refine Ev.bind (valid_ev _ _ _ _ _ _ _ _ _ _) ?_
          rw [h2, hx]
          simp only [if_neg (show ¬ (false = true) by decide)]
          exact ih (i + 1) (at_ + 1) out want lst (by omega) (by omega) (by omega) ho hq (by omega) hc
        · by_cases hf : (lst.length : Int) = room
          · have e : putOf room lst l[at_] = (0, [], 18) := by unfold putOf; rw [if_pos hc, hx, if_pos rfl, if_pos hf]
            rw [e]
            simp only [if_neg (show ¬ (18 : Int) = 0 by decide), if_true, if_pos (wrap_gap ho (by omega) (hlen ▸ hf) : wrap64 ((want.length : Int) - (out : Int)) = room)]
            exact ih (i + 1) (at_ + 1) out want lst (by omega) (by omega) (by omega) ho hq (by omega) hc
          · have e : putOf room lst l[at_] = (room, lst ++ [l[at_]], 0) := by unfold putOf; rw [if_pos hc, hx, if_pos rfl, if_neg hf]
            rw [e]
            simp only [if_true, if_pos (show want.length < 1759218604441 by omega)]
            refine ih (i + 1) (at_ + 1) out (want ++ [l[at_]]) (lst ++ [l[at_]]) (by omega) (by omega) (by omega) (by simp; omega) ?_ (by simp; omega) ?_
            · rw [List.drop_append_of_le_length ho, hq]
            · exact chk_snoc hc hx hf
set_option maxHeartbeats 4000000 in
theorem ChannelFirst (room : Int) (lst l : List S35) (takes : List Bool) : ∃ k, tailwaterlaw26_ChannelFirst.f k room lst l takes = some true := by
  refine Ev.rounds (g := fun k => tailwaterlaw26_ChannelFirst.f k room lst l takes) ?_
  have ht : Ev (fun k => tailwaterlaw26_ChannelFirst.j0 k l takes true true room lst) true :=
    Ev.step (f := fun k => some true) (fun k => by rw [tailwaterlaw26_ChannelFirst.j0, if_pos rfl]) (Ev.now _)
  unfold tailwaterlaw26_ChannelFirst.f
  refine Ev.bind alive_ev ?_
  refine Ev.bind (rcheck_ev room lst) ?_
  by_cases hc : chk room lst = 0
  case neg => simp only [if_neg hc]; exact ht
  have hs := chk_small hc
  simp only [if_pos hc]
  by_cases h1 : (l.length : Int) > 30
  · simp only [if_pos h1]; exact ht
  simp only [if_neg h1]
  by_cases h2 : (takes.length : Int) > 60
  · simp only [if_pos h2]; exact ht
  simp only [if_neg h2, Bool.not_true]
  refine Ev.step (fun k => by rw [tailwaterlaw26_ChannelFirst.j0, if_neg (by decide)]) ?_
  simp only [Option.bind_some, List.nil_append, List.length_nil, Nat.zero_add]
  simp only [if_pos (show lst.length < 1759218604441 by omega)]
  exact first_loop l takes (by omega) (by omega) room _ 0 0 0 lst lst rfl (by omega) (by omega) (by omega) rfl (by omega) hc
end Go.Proofs.Ytiilljmhddjmeaa.Q
