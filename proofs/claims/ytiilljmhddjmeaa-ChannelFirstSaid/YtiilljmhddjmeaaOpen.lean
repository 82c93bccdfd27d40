/- An argument that is a message reads as a message, one that is a queue as its room and a list of messages. No condition. -/
import Derived.Deep.Slices
import Derived.Deep.Fields
import Derived.ChangeSame
import Derived.OpenShut
import Derived.ProofKit
import Derived.Test.YtiilljmhddjmeaaQ0
namespace Go.Proofs.Ytiilljmhddjmeaa.Q
open Go.ChangeShapes Go.WideShapes Go.Deep Go.RowKit Go.Proofs.YtiilljmhddjmeaaW.PrintWords
set_option linter.unusedVariables false
section
variable {H : Type} {enc : TypeId × Value → H} {w : World} {base : Nat} {spare : Nat → Bool} {held : Bool}

def wf (n : Int) : Prop := (Lit.int .i64 n).wf = true
def Fits (x : S35) : Prop := (Lit.int .u8 x.f0).wf = true ∧ (wf x.f1.f0 ∧ wf x.f1.f1 ∧ wf x.f1.f2) ∧ wf x.f2 ∧ wf x.f3.f0 ∧ (wf x.f3.f1.f0 ∧ wf x.f3.f1.f1) ∧ wf x.f3.f2.f0 ∧ wf x.f3.f2.f1

theorem e2 : Try.prog.cellsOf 2 = 1 := by kernel_rfl
theorem open_i64 {n : Nat} {v : Value} {y : DataW H × List MemPlace} (h : DataW.trod enc Try.prog w base spare held n 2 [v] = some y) : ∃ a : Int, v = .int .i64 a ∧ wf a := by
  obtain ⟨a, ha, _, wa⟩ := DataW.trod_int Try.underlying2 h
  injection ha with ha
  exact ⟨a, ha, wa⟩
theorem open_28 {n : Nat} {cs : List Value} {y : DataW H × List MemPlace} (h : DataW.trod enc Try.prog w base spare held n 28 cs = some y) :
    ∃ x : S28, cs = [.int .i64 x.f0, .int .i64 x.f1, .int .i64 x.f2] ∧ wf x.f0 ∧ wf x.f1 ∧ wf x.f2 := by
  obtain ⟨xs, m, _, _, hl, hx, hf⟩ := DataW.trod_struct Try.underlying28 h
  have hl : cs.length = 3 := hl.trans (by kernel_rfl)
  have hx : xs.length = 3 := hx
  match cs, hl, xs, hx with
  | [c0, c1, c2], _, [x0, x1, x2], _ =>
    have g0 : DataW.trod enc Try.prog w base spare held m 2 (([c0, c1, c2].drop 0).take (Try.prog.cellsOf 2)) = some x0 := hf 0 _ rfl
    have g1 : DataW.trod enc Try.prog w base spare held m 2 (([c0, c1, c2].drop 1).take (Try.prog.cellsOf 2)) = some x1 := hf 1 _ rfl
    have g2 : DataW.trod enc Try.prog w base spare held m 2 (([c0, c1, c2].drop 2).take (Try.prog.cellsOf 2)) = some x2 := hf 2 _ rfl
    rw [e2] at g0 g1 g2
    obtain ⟨a, rfl, wa⟩ := open_i64 (show DataW.trod enc Try.prog w base spare held m 2 [c0] = some x0 from g0)
    obtain ⟨b, rfl, wb⟩ := open_i64 (show DataW.trod enc Try.prog w base spare held m 2 [c1] = some x1 from g1)
    obtain ⟨c, rfl, wc⟩ := open_i64 (show DataW.trod enc Try.prog w base spare held m 2 [c2] = some x2 from g2)
    exact ⟨⟨a, b, c⟩, rfl, wa, wb, wc⟩
theorem open_30 {n : Nat} {cs : List Value} {y : DataW H × List MemPlace} (h : DataW.trod enc Try.prog w base spare held n 30 cs = some y) :
    ∃ x : S30, cs = [.int .i64 x.f0, .int .i64 x.f1] ∧ wf x.f0 ∧ wf x.f1 := by
  obtain ⟨xs, m, _, _, hl, hx, hf⟩ := DataW.trod_struct Try.underlying30 h
  have hl : cs.length = 2 := hl.trans (by kernel_rfl)
  have hx : xs.length = 2 := hx
  match cs, hl, xs, hx with
  | [c0, c1], _, [x0, x1], _ =>
    have g0 : DataW.trod enc Try.prog w base spare held m 2 (([c0, c1].drop 0).take (Try.prog.cellsOf 2)) = some x0 := hf 0 _ rfl
    have g1 : DataW.trod enc Try.prog w base spare held m 2 (([c0, c1].drop 1).take (Try.prog.cellsOf 2)) = some x1 := hf 1 _ rfl
    rw [e2] at g0 g1
    obtain ⟨a, rfl, wa⟩ := open_i64 (show DataW.trod enc Try.prog w base spare held m 2 [c0] = some x0 from g0)
    obtain ⟨b, rfl, wb⟩ := open_i64 (show DataW.trod enc Try.prog w base spare held m 2 [c1] = some x1 from g1)
    exact ⟨⟨a, b⟩, rfl, wa, wb⟩
theorem open_31 {n : Nat} {cs : List Value} {y : DataW H × List MemPlace} (h : DataW.trod enc Try.prog w base spare held n 31 cs = some y) :
    ∃ x : S31, cs = [.int .i64 x.f0, .int .i64 x.f1] ∧ wf x.f0 ∧ wf x.f1 := by
  obtain ⟨xs, m, _, _, hl, hx, hf⟩ := DataW.trod_array Try.underlying31 h
  have hl : cs.length = 2 := hl.trans (by kernel_rfl)
  match cs, hl, xs, hx with
  | [c0, c1], _, [x0, x1], _ =>
    have g0 : DataW.trod enc Try.prog w base spare held m 2 (([c0, c1].drop (0 * Try.prog.cellsOf 2)).take (Try.prog.cellsOf 2)) = some x0 := hf 0 (by decide)
    have g1 : DataW.trod enc Try.prog w base spare held m 2 (([c0, c1].drop (1 * Try.prog.cellsOf 2)).take (Try.prog.cellsOf 2)) = some x1 := hf 1 (by decide)
    rw [e2] at g0 g1
    obtain ⟨a, rfl, wa⟩ := open_i64 (show DataW.trod enc Try.prog w base spare held m 2 [c0] = some x0 from g0)
    obtain ⟨b, rfl, wb⟩ := open_i64 (show DataW.trod enc Try.prog w base spare held m 2 [c1] = some x1 from g1)
    exact ⟨⟨a, b⟩, rfl, wa, wb⟩
theorem open_33 {n : Nat} {cs : List Value} {y : DataW H × List MemPlace} (h : DataW.trod enc Try.prog w base spare held n 33 cs = some y) :
    ∃ x : S33, cs = [.int .i64 x.f0, .int .i64 x.f1.f0, .int .i64 x.f1.f1, .int .i64 x.f2.f0, .int .i64 x.f2.f1] ∧ wf x.f0 ∧ (wf x.f1.f0 ∧ wf x.f1.f1) ∧ wf x.f2.f0 ∧ wf x.f2.f1 := by
  obtain ⟨xs, m, _, _, hl, hx, hf⟩ := DataW.trod_struct Try.underlying33 h
  have hl : cs.length = 5 := hl.trans (by kernel_rfl)
  have hx : xs.length = 3 := hx
  match cs, hl, xs, hx with
  | [c0, c1, c2, c3, c4], _, [x0, x1, x2], _ =>
    have e30 : Try.prog.cellsOf 30 = 2 := by kernel_rfl
    have e31 : Try.prog.cellsOf 31 = 2 := by kernel_rfl
    have g0 : DataW.trod enc Try.prog w base spare held m 2 (([c0, c1, c2, c3, c4].drop 0).take (Try.prog.cellsOf 2)) = some x0 := hf 0 _ rfl
    have g1 : DataW.trod enc Try.prog w base spare held m 30 (([c0, c1, c2, c3, c4].drop 1).take (Try.prog.cellsOf 30)) = some x1 := hf 1 _ rfl
    have g2 : DataW.trod enc Try.prog w base spare held m 31 (([c0, c1, c2, c3, c4].drop 3).take (Try.prog.cellsOf 31)) = some x2 := hf 2 _ rfl
    rw [e2] at g0
    rw [e30] at g1
    rw [e31] at g2
    obtain ⟨a, rfl, wa⟩ := open_i64 (show DataW.trod enc Try.prog w base spare held m 2 [c0] = some x0 from g0)
    obtain ⟨s, hs, ws⟩ := open_30 (show DataW.trod enc Try.prog w base spare held m 30 [c1, c2] = some x1 from g1)
    obtain ⟨u, hu, wu⟩ := open_31 (show DataW.trod enc Try.prog w base spare held m 31 [c3, c4] = some x2 from g2)
    injection hs with h1 hs; injection hs with h2 hs
    injection hu with h3 hu; injection hu with h4 hu
    subst h1 h2 h3 h4
    exact ⟨⟨a, s, u⟩, rfl, wa, ws, wu⟩
theorem open_message {n : Nat} {cs : List Value} {y : DataW H × List MemPlace} (h : DataW.trod enc Try.prog w base spare held n 35 cs = some y) :
    ∃ x : S35, cs = [.int .u8 x.f0, .int .i64 x.f1.f0, .int .i64 x.f1.f1, .int .i64 x.f1.f2, .int .i64 x.f2, .int .i64 x.f3.f0, .int .i64 x.f3.f1.f0, .int .i64 x.f3.f1.f1, .int .i64 x.f3.f2.f0, .int .i64 x.f3.f2.f1] ∧ Fits x := by
  obtain ⟨xs, m, _, _, hl, hx, hf⟩ := DataW.trod_struct Try.underlying35 h
  have hl : cs.length = 10 := hl.trans (by kernel_rfl)
  have hx : xs.length = 4 := hx
  match cs, hl, xs, hx with
  | [c0, c1, c2, c3, c4, c5, c6, c7, c8, c9], _, [x0, x1, x2, x3], _ =>
    have e5 : Try.prog.cellsOf 5 = 1 := by kernel_rfl
    have e28 : Try.prog.cellsOf 28 = 3 := by kernel_rfl
    have e33 : Try.prog.cellsOf 33 = 5 := by kernel_rfl
    have g0 : DataW.trod enc Try.prog w base spare held m 5 (([c0, c1, c2, c3, c4, c5, c6, c7, c8, c9].drop 0).take (Try.prog.cellsOf 5)) = some x0 := hf 0 _ rfl
    have g1 : DataW.trod enc Try.prog w base spare held m 28 (([c0, c1, c2, c3, c4, c5, c6, c7, c8, c9].drop 1).take (Try.prog.cellsOf 28)) = some x1 := hf 1 _ rfl
    have g2 : DataW.trod enc Try.prog w base spare held m 2 (([c0, c1, c2, c3, c4, c5, c6, c7, c8, c9].drop 4).take (Try.prog.cellsOf 2)) = some x2 := hf 2 _ rfl
    have g3 : DataW.trod enc Try.prog w base spare held m 33 (([c0, c1, c2, c3, c4, c5, c6, c7, c8, c9].drop 5).take (Try.prog.cellsOf 33)) = some x3 := hf 3 _ rfl
    rw [e5] at g0
    rw [e28] at g1
    rw [e2] at g2
    rw [e33] at g3
    obtain ⟨a, ha, _, wa⟩ := DataW.trod_int Try.underlying5 (show DataW.trod enc Try.prog w base spare held m 5 [c0] = some x0 from g0)
    obtain ⟨r, hr, wr⟩ := open_28 (show DataW.trod enc Try.prog w base spare held m 28 [c1, c2, c3] = some x1 from g1)
    obtain ⟨t, rfl, wt⟩ := open_i64 (show DataW.trod enc Try.prog w base spare held m 2 [c4] = some x2 from g2)
    obtain ⟨o, ho, wo⟩ := open_33 (show DataW.trod enc Try.prog w base spare held m 33 [c5, c6, c7, c8, c9] = some x3 from g3)
    injection ha with ha
    injection hr with h1 hr; injection hr with h2 hr; injection hr with h3 hr
    injection ho with h5 ho; injection ho with h6 ho; injection ho with h7 ho; injection ho with h8 ho; injection ho with h9 ho
    subst ha h1 h2 h3 h5 h6 h7 h8 h9
    exact ⟨⟨a, r, t, o⟩, rfl, wa, wr, wt, wo⟩

/-- The argument's reading: a list of messages, each of them as the machine's numbers are. -/
def Reads (w : World) (A : Option Addr) (n c : Nat) (l : List S35) : Prop := n = l.length ∧ l.length ≤ c ∧ Kd.C k35 w A l.length l ∧ ∀ x ∈ l, Fits x

theorem open_messages {fuel : Nat} {A : Option Addr} {n c : Nat} {y : DataW H × List MemPlace} (h : DataW.trod enc Try.prog w base spare held fuel 22 [.slice A n c] = some y) : ∃ l, Reads w A n c l := by
  rcases open_slice Try.underlying22 h with ⟨h0, _⟩ | ⟨a, len, cap, m, k, D, Pl, hcs, hb, hl, hm, hmm, hx, hi⟩
  · injection h0 with h0 _
    injection h0 with h1 h2 h3
    subst h1 h2 h3
    exact ⟨[], rfl, Nat.le_refl _, Kd.C_nil _ _, fun x hx => by cases hx⟩
  · injection hcs with h0 _
    injection h0 with h1 h2 h3
    subst h1 h2 h3
    have e35 : Try.prog.cellsOf 35 = 10 := by kernel_rfl
    have hnm : n ≤ m := by rw [hmm]; split <;> omega
    have hall : ∀ i, ∃ x : S35, i < n → Fits x ∧ ∃ cs, k35.K w x cs ∧ ∀ j u, cs[j]? = some u → w.cell? (a.add (i * 10 + j)) = some u := by
      intro i
      by_cases hin : i < n
      · obtain ⟨cs, hc, ht⟩ := hi i (by omega)
        rw [e35] at hc
        obtain ⟨x, hk, hf⟩ := open_message ht
        obtain ⟨_, hcl, hat⟩ := World.cells?_some hc
        refine ⟨x, fun _ => ⟨hf, cs, hk ▸ k35_mk w x, fun j u hj => ?_⟩⟩
        have hjl : j < 10 := by have := (List.getElem?_eq_some_iff.1 hj).1; omega
        rw [← Go.Deep.add_add, hat j hjl, hj]
      · exact ⟨z35, fun h => absurd h hin⟩
    have hch := fun i => Classical.choose_spec (hall i)
    refine ⟨(List.range n).map (fun i => Classical.choose (hall i)), by simp, by simpa using hl, ?_, ?_⟩
    · refine ⟨rfl, ?_, fun _ => ⟨a, rfl, fun j p hj => ?_⟩⟩
      · unfold maxLen at hm; simp; omega
      · rw [List.getElem?_map, Option.map_eq_some_iff] at hj
        obtain ⟨i, hri, rfl⟩ := hj
        obtain ⟨hin, hij⟩ := List.getElem?_eq_some_iff.1 hri
        simp at hij hin
        subst hij
        obtain ⟨_, cs, hk, hc⟩ := hch j hin
        exact ⟨cs, k35.K_len hk, hk, hc⟩
    · intro x hx
      rw [List.mem_map] at hx
      obtain ⟨i, hin, rfl⟩ := hx
      exact (hch i (List.mem_range.1 hin)).1

theorem open_queue {n : Nat} {cs : List Value} {y : DataW H × List MemPlace} (h : DataW.trod enc Try.prog w base spare held n 24 cs = some y) :
    ∃ (room : Int) (A : Option Addr) (c : Nat) (l : List S35), cs = [.int .i64 room, .slice A l.length c] ∧ wf room ∧ l.length ≤ c ∧ Kd.C k35 w A l.length l ∧ ∀ x ∈ l, Fits x := by
  obtain ⟨xs, m, _, _, hl, hx, hf⟩ := DataW.trod_struct Try.underlying24 h
  have hl : cs.length = 2 := hl.trans (by kernel_rfl)
  have hx : xs.length = 2 := hx
  match cs, hl, xs, hx with
  | [c0, c1], _, [x0, x1], _ =>
    have e3 : Try.prog.cellsOf 3 = 1 := by kernel_rfl
    have e22 : Try.prog.cellsOf 22 = 1 := by kernel_rfl
    have g0 : DataW.trod enc Try.prog w base spare held m 3 (([c0, c1].drop 0).take (Try.prog.cellsOf 3)) = some x0 := hf 0 _ rfl
    have g1 : DataW.trod enc Try.prog w base spare held m 22 (([c0, c1].drop 1).take (Try.prog.cellsOf 22)) = some x1 := hf 1 _ rfl
    rw [e3] at g0
    rw [e22] at g1
    obtain ⟨a, ha, _, wa⟩ := DataW.trod_int Try.underlying3 (show DataW.trod enc Try.prog w base spare held m 3 [c0] = some x0 from g0)
    injection ha with ha
    subst ha
    have g2 : DataW.trod enc Try.prog w base spare held m 22 [c1] = some x1 := g1
    obtain ⟨A, k, c, rfl⟩ : ∃ A k c, c1 = .slice A k c := by
      rcases open_slice Try.underlying22 g2 with ⟨h0, _⟩ | ⟨a, len, cap, m, k, D, Pl, hcs, _⟩
      · injection h0 with h0 _; exact ⟨_, _, _, h0⟩
      · injection hcs with h0 _; exact ⟨_, _, _, h0⟩
    obtain ⟨l, rfl, hc, hC, hF⟩ := open_messages g2
    exact ⟨a, A, c, l, rfl, wa, hc, hC, hF⟩
end
end Go.Proofs.Ytiilljmhddjmeaa.Q
