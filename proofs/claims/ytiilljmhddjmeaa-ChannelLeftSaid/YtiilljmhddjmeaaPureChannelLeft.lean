/- What is taken and what is left are what there was, and room is told by how many can be put. No condition. -/
import Derived.Test.YtiilljmhddjmeaaF8
import Derived.Test.YtiilljmhddjmeaaSpecChk
import Derived.Test.YtiilljmhddjmeaaSpecSame
namespace Go.Proofs.Ytiilljmhddjmeaa.Q
open Go.RowKit Go.Proofs.YtiilljmhddjmeaaW.PrintWords Go.Proofs.YtiilljmhddjmeaaW.PrintLast
set_option linter.unusedVariables false
set_option linter.unusedSimpArgs false
theorem samelist_ev (l : List S35) (hl : l.length ≤ 100) : Ev (fun k => tailwaterref26_SameList.f k l l) true := by
  unfold tailwaterref26_SameList.f
  simp only [if_true]
  exact same_loop l hl _ 0 rfl (by omega)
theorem left_put (room : Int) (l : List S35) (x : S35) (hc : chk room l = 0) : Ev (fun k => (channel_Put.f k room l x.f0 x.f1.f0 x.f1.f1 x.f1.f2 x.f2 x.f3.f0 x.f3.f1.f0 x.f3.f1.f1 x.f3.f2.f0 x.f3.f2.f1).bind fun bt604 => (if true = true then ((tailwaterref25_Valid.f k x.f0 x.f1.f0 x.f1.f1 x.f1.f2 x.f2 x.f3.f0 x.f3.f1.f0 x.f3.f1.f1 x.f3.f2.f0 x.f3.f2.f1).bind fun t610 => (if t610 = true then (some ((bt604.2.2 == 18) == (wrap64 (room - (l.length : Int)) == 0))) else (some true))) else (some false))) true := by
  have hs := chk_small hc
  have hw : wrap64 (room - (l.length : Int)) = room - l.length := by unfold wrap64; omega
  refine Ev.bind (put_ev room l x) ?_
  simp only [if_true]
  refine Ev.bind (valid_ev _ _ _ _ _ _ _ _ _ _) ?_
  have h2 : valid x.f0 x.f1.f0 x.f1.f1 x.f1.f2 x.f2 x.f3.f0 x.f3.f1.f0 x.f3.f1.f1 x.f3.f2.f0 x.f3.f2.f1 = ok x := rfl
  rw [h2]
  cases ho : ok x
  · exact Ev.now _
  · have e : ((putOf room l x).2.2 == 18) = (wrap64 (room - (l.length : Int)) == 0) := by
      unfold putOf
      rw [hw, if_pos hc, if_pos ho]
      by_cases h : (l.length : Int) = room
      · rw [if_pos h]; simp; omega
      · rw [if_neg h]; simp; omega
    simp only [if_true]
    rw [e, beq_self_eq_true]
    exact Ev.now _
set_option maxHeartbeats 4000000 in
theorem ChannelLeft (room : Int) (l : List S35) (x : S35) : ∃ k, tailwaterlaw26_ChannelLeft.f k room l x.f0 x.f1.f0 x.f1.f1 x.f1.f2 x.f2 x.f3.f0 x.f3.f1.f0 x.f3.f1.f1 x.f3.f2.f0 x.f3.f2.f1 = some true := by
  refine Ev.rounds (g := fun k => tailwaterlaw26_ChannelLeft.f k room l x.f0 x.f1.f0 x.f1.f1 x.f1.f2 x.f2 x.f3.f0 x.f3.f1.f0 x.f3.f1.f1 x.f3.f2.f0 x.f3.f2.f1) ?_
  have ht : Ev (fun k => tailwaterlaw26_ChannelLeft.j0 k true true room l x.f0 x.f1.f0 x.f1.f1 x.f1.f2 x.f2 x.f3.f0 x.f3.f1.f0 x.f3.f1.f1 x.f3.f2.f0 x.f3.f2.f1) true :=
    Ev.step (f := fun k => some true) (fun k => by rw [tailwaterlaw26_ChannelLeft.j0, if_pos rfl]) (Ev.now _)
  unfold tailwaterlaw26_ChannelLeft.f tailwaterref26_Great.f
  refine Ev.bind alive_ev ?_
  simp only [Option.bind_some]
  by_cases hg : (l.length : Int) > 20
  · rw [decide_eq_true hg]; simp only [if_true]; exact ht
  rw [decide_eq_false hg]
  simp only [if_neg (show ¬ (false = true) by decide)]
  refine Ev.bind (rcheck_ev room l) ?_
  by_cases hc : chk room l = 0
  case neg => simp only [if_neg hc]; exact ht
  have hs := chk_small hc
  have hw : wrap64 (room - (l.length : Int)) = room - l.length := by unfold wrap64; omega
  simp only [if_pos hc, Bool.not_true]
  refine Ev.step (fun k => by rw [tailwaterlaw26_ChannelLeft.j0, if_neg (by decide)]) ?_
  have e4 : leftOf room l = (wrap64 (room - l.length), 0) := by unfold leftOf; rw [if_pos hc]
  refine Ev.bind (e4 ▸ left_ev room l) ?_
  have hb : (wrap64 (wrap64 (room - (l.length : Int)) + (l.length : Int)) != room) = false := by
    rw [hw, show room - (l.length : Int) + l.length = room by omega, show wrap64 room = room by unfold wrap64; omega]; simp
  simp only [if_true, hb]
  refine Ev.step (fun k => by rw [tailwaterlaw26_ChannelLeft.j1, if_neg (by decide)]) ?_
  cases l with
  | nil =>
    have e3 : takeOf room [] = (0, 0, 0, 0, 0, 0, 0, 0, 0, 0, 0, [], 6) := by unfold takeOf; rw [if_pos hc]; rfl
    refine Ev.bind (e3 ▸ take_ev room []) ?_
    simp only [if_neg (show ¬ (6 : Int) = 0 by decide)]
    exact left_put room [] x hc
  | cons y t =>
    have e3 : takeOf room (y :: t) = (y.f0, y.f1.f0, y.f1.f1, y.f1.f2, y.f2, y.f3.f0, y.f3.f1.f0, y.f3.f1.f1, y.f3.f2.f0, y.f3.f2.f1, room, t, 0) := by unfold takeOf; rw [if_pos hc, if_neg (by simp; omega)]; rfl
    refine Ev.bind (e3 ▸ take_ev room (y :: t)) ?_
    simp only [if_true, Option.bind_some]
    have hl : (y :: t).length ≤ 100 := by omega
    simp only [List.length_cons, List.length_nil] at hl
    have hlt : ([(⟨y.f0, ⟨y.f1.f0, y.f1.f1, y.f1.f2⟩, y.f2, ⟨y.f3.f0, ⟨y.f3.f1.f0, y.f3.f1.f1⟩, ⟨y.f3.f2.f0, y.f3.f2.f1⟩⟩⟩ : S35)] : List S35).length + t.length < 1759218604441 := by simp; omega
    simp only [if_pos hlt]
    refine Ev.bind (samelist_ev (y :: t) (by simp; omega)) ?_
    simp only [if_true, bne_self_eq_false]
    refine Ev.step (fun k => by rw [tailwaterlaw26_ChannelLeft.j2, if_neg (by decide)]) ?_
    exact left_put room (y :: t) x hc
end Go.Proofs.Ytiilljmhddjmeaa.Q
