/- An argument that is a slice of bools reads as a list of bools; a row of messages that is read is shared as it lies. No condition. -/
import Derived.Test.YtiilljmhddjmeaaOpen
import Derived.Test.YtiilljmhddjmeaaWMore
import Derived.Deep.Grids
namespace Go.Proofs.Ytiilljmhddjmeaa.Q
open Go.ChangeShapes Go.WideShapes Go.Deep Go.RowKit Go.Proofs.YtiilljmhddjmeaaW.PrintWords
set_option linter.unusedVariables false
theorem F_ofC {w : World} {A : Option Addr} {n : Nat} {xs : List S35} (h : Kd.C k35 w A n xs) : Kd.F k35 w (fun _ => True) A n xs := fun W' hW => ⟨h.1, h.2.1, fun hn => by
  obtain ⟨ad, e, hc⟩ := h.2.2 hn
  refine ⟨ad, e, fun j p hj => ?_⟩
  obtain ⟨c, hs, hr, hcell⟩ := hc j p hj
  exact ⟨c, hs, (k35_open hr) ▸ k35_mk W' p, fun i u hu => (World.cell?_of_block (w := w) (hW _ trivial (World.block_lt_of_cell? w _ (hcell i u hu)))).trans (hcell i u hu)⟩⟩
theorem V_ofC {w : World} {A : Option Addr} {c base : Nat} {xs : List S35} (h : Kd.C k35 w A xs.length xs) (hc : xs.length ≤ c) : Kd.V k35 35 w base (fun _ => True) (.slice A xs.length c) xs := Kd.V_mk hc (F_ofC h)
theorem open_takes {H : Type} {enc : TypeId × Value → H} {w : World} {base : Nat} {held : Bool} {fuel : Nat} {A : Option Addr} {n c : Nat} {y : DataW H × List MemPlace} (h : DataW.trod enc Try.prog w base (fun _ => true) held fuel 55 [.slice A n c] = some y) :
    ∃ l : List Bool, n = l.length ∧ l.length ≤ c ∧ Kd.C Kd.bool w A l.length l := by
  rcases open_bools Try.underlying55 Try.underlying4 (by kernel_rfl) h with ⟨h0, _⟩ | ⟨a, len, cap, B, hcs, hb, hl, hm, _, hx⟩
  · injection h0 with h0 _
    injection h0 with h1 h2 h3
    subst h1 h2 h3
    exact ⟨[], rfl, Nat.le_refl _, Kd.C_nil _ _⟩
  · injection hcs with h0 _
    injection h0 with h1 h2 h3
    subst h1 h2 h3
    refine ⟨(List.range n).map B, by simp, by simpa using hl, rfl, ?_, fun _ => ⟨a, rfl, fun j p hj => ?_⟩⟩
    · unfold maxLen at hm; simp; omega
    · rw [List.getElem?_map, Option.map_eq_some_iff] at hj
      obtain ⟨i, hri, rfl⟩ := hj
      obtain ⟨hin, hij⟩ := List.getElem?_eq_some_iff.1 hri
      simp at hij hin
      subst hij
      refine ⟨[.bool (B j)], rfl, rfl, fun k u hk => ?_⟩
      cases k with
      | zero =>
        simp only [List.getElem?_cons_zero, Option.some.injEq] at hk
        subst hk
        exact (show a.add (j * 1 + 0) = a.add j by rw [Nat.mul_one, Nat.add_zero]) ▸ hx j (by omega)
      | succ k => simp at hk
end Go.Proofs.Ytiilljmhddjmeaa.Q
