/- An argument that is a slice of events reads as a list of events. No condition. -/
import Derived.Test.YtdmaedaobjcocaaQ0
import Derived.Deep.Slices
import Derived.Deep.Fields
import Derived.ChangeSame
import Derived.ProofKit
namespace Go.Proofs.Ytdmaedaobjcocaa.Q
open Go.ChangeShapes Go.WideShapes Go.Deep Go.RowKit Go.Proofs.YtdmaedaobjcocaaW.PrintWords
set_option linter.unusedVariables false
section
variable {H : Type} {enc : TypeId × Value → H} {w : World} {base : Nat} {spare : Nat → Bool} {held : Bool}

def Fits (x : S40) : Prop := (Lit.int .i64 x.f1).wf = true ∧ (Lit.int .i64 x.f2.f0).wf = true ∧ (Lit.int .i64 x.f2.f1).wf = true ∧ (Lit.int .i64 x.f2.f2).wf = true

theorem open_record {n : Nat} {cs : List Value} {y : DataW H × List MemPlace} (h : DataW.trod enc Try.prog w base spare held n 38 cs = some y) :
    ∃ a b c : Int, cs = [.int .i64 a, .int .i64 b, .int .i64 c] ∧ (Lit.int .i64 a).wf = true ∧ (Lit.int .i64 b).wf = true ∧ (Lit.int .i64 c).wf = true := by
  obtain ⟨xs, m, _, _, hl, hx, hf⟩ := DataW.trod_struct Try.underlying38 h
  have hl : cs.length = 3 := hl.trans (by kernel_rfl)
  have hx : xs.length = 3 := hx
  match cs, hl, xs, hx with
  | [c0, c1, c2], _, [x0, x1, x2], _ =>
    have e2 : Try.prog.cellsOf 2 = 1 := by kernel_rfl
    have g0 : DataW.trod enc Try.prog w base spare held m 2 (([c0, c1, c2].drop 0).take (Try.prog.cellsOf 2)) = some x0 := hf 0 _ rfl
    have g1 : DataW.trod enc Try.prog w base spare held m 2 (([c0, c1, c2].drop 1).take (Try.prog.cellsOf 2)) = some x1 := hf 1 _ rfl
    have g2 : DataW.trod enc Try.prog w base spare held m 2 (([c0, c1, c2].drop 2).take (Try.prog.cellsOf 2)) = some x2 := hf 2 _ rfl
    rw [e2] at g0 g1 g2
    obtain ⟨a, ha, _, wa⟩ := DataW.trod_int Try.underlying2 (show DataW.trod enc Try.prog w base spare held m 2 [c0] = some x0 from g0)
    obtain ⟨b, hb, _, wb⟩ := DataW.trod_int Try.underlying2 (show DataW.trod enc Try.prog w base spare held m 2 [c1] = some x1 from g1)
    obtain ⟨c, hc, _, wc⟩ := DataW.trod_int Try.underlying2 (show DataW.trod enc Try.prog w base spare held m 2 [c2] = some x2 from g2)
    injection ha with ha; injection hb with hb; injection hc with hc
    exact ⟨a, b, c, by rw [ha, hb, hc], wa, wb, wc⟩

theorem open_event {n : Nat} {cs : List Value} {y : DataW H × List MemPlace} (h : DataW.trod enc Try.prog w base spare held n 40 cs = some y) :
    ∃ x : S40, k40.K w x cs ∧ Fits x := by
  obtain ⟨xs, m, _, _, hl, hx, hf⟩ := DataW.trod_struct Try.underlying40 h
  have hl : cs.length = 5 := hl.trans (by kernel_rfl)
  have hx : xs.length = 3 := hx
  match cs, hl, xs, hx with
  | [c0, c1, c2, c3, c4], _, [x0, x1, x2], _ =>
    have e2 : Try.prog.cellsOf 2 = 1 := by kernel_rfl
    have e4 : Try.prog.cellsOf 4 = 1 := by kernel_rfl
    have e38 : Try.prog.cellsOf 38 = 3 := by kernel_rfl
    have g0 : DataW.trod enc Try.prog w base spare held m 4 (([c0, c1, c2, c3, c4].drop 0).take (Try.prog.cellsOf 4)) = some x0 := hf 0 _ rfl
    have g1 : DataW.trod enc Try.prog w base spare held m 2 (([c0, c1, c2, c3, c4].drop 1).take (Try.prog.cellsOf 2)) = some x1 := hf 1 _ rfl
    have g2 : DataW.trod enc Try.prog w base spare held m 38 (([c0, c1, c2, c3, c4].drop 2).take (Try.prog.cellsOf 38)) = some x2 := hf 2 _ rfl
    rw [e4] at g0
    rw [e2] at g1
    rw [e38] at g2
    obtain ⟨b, hb, _⟩ := DataW.trod_bool Try.underlying4 (show DataW.trod enc Try.prog w base spare held m 4 [c0] = some x0 from g0)
    obtain ⟨t, ht, _, wt⟩ := DataW.trod_int Try.underlying2 (show DataW.trod enc Try.prog w base spare held m 2 [c1] = some x1 from g1)
    obtain ⟨u, v, z, hr, wu, wv, wz⟩ := open_record (show DataW.trod enc Try.prog w base spare held m 38 [c2, c3, c4] = some x2 from g2)
    injection hb with hb; injection ht with ht
    injection hr with h2 hr; injection hr with h3 hr; injection hr with h4 hr
    subst hb ht h2 h3 h4
    exact ⟨⟨b, t, ⟨u, v, z⟩⟩, k40_mk w _, wt, wu, wv, wz⟩

/-- The argument's reading: a list of events, each of them as the machine's numbers are. -/
def Reads (w : World) (A : Option Addr) (n c : Nat) (l : List S40) : Prop := n = l.length ∧ l.length ≤ c ∧ Kd.C k40 w A l.length l ∧ ∀ x ∈ l, Fits x

theorem open_events {fuel : Nat} {A : Option Addr} {n c : Nat} {y : DataW H × List MemPlace} (h : DataW.trod enc Try.prog w base spare held fuel 22 [.slice A n c] = some y) : ∃ l, Reads w A n c l := by
  rcases open_slice Try.underlying22 h with ⟨h0, _⟩ | ⟨a, len, cap, m, k, D, Pl, hcs, hb, hl, hm, hmm, hx, hi⟩
  · injection h0 with h0 _
    injection h0 with h1 h2 h3
    subst h1 h2 h3
    exact ⟨[], rfl, Nat.le_refl _, Kd.C_nil _ _, fun x hx => by cases hx⟩
  · injection hcs with h0 _
    injection h0 with h1 h2 h3
    subst h1 h2 h3
    have e40 : Try.prog.cellsOf 40 = 5 := by kernel_rfl
    have hnm : n ≤ m := by rw [hmm]; split <;> omega
    have hall : ∀ i, ∃ x : S40, i < n → Fits x ∧ ∃ cs, k40.K w x cs ∧ ∀ j u, cs[j]? = some u → w.cell? (a.add (i * 5 + j)) = some u := by
      intro i
      by_cases hin : i < n
      · obtain ⟨cs, hc, ht⟩ := hi i (by omega)
        rw [e40] at hc
        obtain ⟨x, hk, hf⟩ := open_event ht
        obtain ⟨_, hcl, hat⟩ := World.cells?_some hc
        refine ⟨x, fun _ => ⟨hf, cs, hk, fun j u hj => ?_⟩⟩
        have hjl : j < 5 := by have := (List.getElem?_eq_some_iff.1 hj).1; omega
        rw [← Go.Deep.add_add, hat j hjl, hj]
      · exact ⟨z40, fun h => absurd h hin⟩
    have hch := fun i => Classical.choose_spec (hall i)
    refine ⟨(List.range n).map (fun i => Classical.choose (hall i)), by simp, by simpa using hl, ?_, ?_⟩
    · refine ⟨rfl, ?_, fun _ => ⟨a, rfl, fun j p hj => ?_⟩⟩
      · unfold maxLen at hm; simp; omega
      · rw [List.getElem?_map, Option.map_eq_some_iff] at hj
        obtain ⟨i, hri, rfl⟩ := hj
        obtain ⟨hin, hij⟩ := List.getElem?_eq_some_iff.1 hri
        simp at hij hin
        subst hij
        obtain ⟨_, cs, hk, hc⟩ := hch j hin
        exact ⟨cs, k40.K_len hk, hk, hc⟩
    · intro x hx
      rw [List.mem_map] at hx
      obtain ⟨i, hin, rfl⟩ := hx
      exact (hch i (List.mem_range.1 hin)).1
end
end Go.Proofs.Ytdmaedaobjcocaa.Q
