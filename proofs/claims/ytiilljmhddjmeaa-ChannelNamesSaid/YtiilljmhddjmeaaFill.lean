/- A struct of the call's own that has been filled cell by cell: the world behind it, told by what it holds and what it left alone. No condition. -/
import Derived.Test.YtiilljmhddjmeaaQ0
namespace Go.Proofs.Ytiilljmhddjmeaa.Q
open Go.RowKit Go.Proofs.YtiilljmhddjmeaaW.PrintWords Go.Proofs.YtiilljmhddjmeaaW.PrintLast
set_option linter.unusedVariables false
variable {P : Program} {c : Code} {Q : Exit → Act → World → Prop} {a : Act} {w : World} {g : Nat} {t : TypeId}
theorem fill2 {z0 z1 y0 y1 : Value} (h : w.heap[g]? = some (.cells #[z0, z1] t (0, 0)))
    (k : ∀ W : World, W.heap[g]? = some (.cells #[y0, y1] t (0, 0)) → KeepBut w W g none → (∀ w0 : World, Below w0.heap.size w0 w → w0.heap.size ≤ g → Below w0.heap.size w0 W) → Code.wp P c Q a W) :
    Code.wp P c Q a ((w.setCell ⟨g, 0, none⟩ y0).setCell ⟨g, 1, none⟩ y1) :=
  k _ (blk_put (cs := #[y0, z1]) (blk_put (cs := #[z0, z1]) h 0 y0 rfl) 1 y1 rfl) (((KeepBut.refl w g none).set_ 0 y0).set_ 1 y1) (fun w0 hb hg => below_set (below_set hb hg) hg)
theorem fill10 {z0 z1 z2 z3 z4 z5 z6 z7 z8 z9 y0 y1 y2 y3 y4 y5 y6 y7 y8 y9 : Value} (h : w.heap[g]? = some (.cells #[z0, z1, z2, z3, z4, z5, z6, z7, z8, z9] t (0, 0)))
    (k : ∀ W : World, W.heap[g]? = some (.cells #[y0, y1, y2, y3, y4, y5, y6, y7, y8, y9] t (0, 0)) → KeepBut w W g none → (∀ w0 : World, Below w0.heap.size w0 w → w0.heap.size ≤ g → Below w0.heap.size w0 W) → Code.wp P c Q a W) :
    Code.wp P c Q a ((((((((((w.setCell ⟨g, 0, none⟩ y0).setCell ⟨g, 1, none⟩ y1).setCell ⟨g, 2, none⟩ y2).setCell ⟨g, 3, none⟩ y3).setCell ⟨g, 4, none⟩ y4).setCell ⟨g, 5, none⟩ y5).setCell ⟨g, 6, none⟩ y6).setCell ⟨g, 7, none⟩ y7).setCell ⟨g, 8, none⟩ y8).setCell ⟨g, 9, none⟩ y9) := by
  have h0 := blk_put (cs' := #[y0, z1, z2, z3, z4, z5, z6, z7, z8, z9]) h 0 y0 rfl
  have h1 := blk_put (cs' := #[y0, y1, z2, z3, z4, z5, z6, z7, z8, z9]) h0 1 y1 rfl
  have h2 := blk_put (cs' := #[y0, y1, y2, z3, z4, z5, z6, z7, z8, z9]) h1 2 y2 rfl
  have h3 := blk_put (cs' := #[y0, y1, y2, y3, z4, z5, z6, z7, z8, z9]) h2 3 y3 rfl
  have h4 := blk_put (cs' := #[y0, y1, y2, y3, y4, z5, z6, z7, z8, z9]) h3 4 y4 rfl
  have h5 := blk_put (cs' := #[y0, y1, y2, y3, y4, y5, z6, z7, z8, z9]) h4 5 y5 rfl
  have h6 := blk_put (cs' := #[y0, y1, y2, y3, y4, y5, y6, z7, z8, z9]) h5 6 y6 rfl
  have h7 := blk_put (cs' := #[y0, y1, y2, y3, y4, y5, y6, y7, z8, z9]) h6 7 y7 rfl
  have h8 := blk_put (cs' := #[y0, y1, y2, y3, y4, y5, y6, y7, y8, z9]) h7 8 y8 rfl
  have h9 := blk_put (cs' := #[y0, y1, y2, y3, y4, y5, y6, y7, y8, y9]) h8 9 y9 rfl
  refine k _ h9 (((((((((((KeepBut.refl w g none).set_ 0 y0).set_ 1 y1).set_ 2 y2).set_ 3 y3).set_ 4 y4).set_ 5 y5).set_ 6 y6).set_ 7 y7).set_ 8 y8).set_ 9 y9) (fun w0 hb hg => ?_)
  exact below_set (below_set (below_set (below_set (below_set (below_set (below_set (below_set (below_set (below_set hb hg) hg) hg) hg) hg) hg) hg) hg) hg) hg
theorem alloc2 (w : World) (o1 o2 : Obj) : ((w.alloc o1).alloc o2).heap[w.heap.size]? = some o1 ∧ ((w.alloc o1).alloc o2).heap[w.heap.size + 1]? = some o2 ∧ Below w.heap.size w ((w.alloc o1).alloc o2) :=
  ⟨blk_alloc (blk_new w o1) o2, by
    have e : (w.alloc o1).heap.size = w.heap.size + 1 := by simp only [World.alloc, Array.size_push]
    have h := blk_new (w.alloc o1) o2
    rw [e] at h
    exact h, below_alloc (below_alloc (Below.refl w.heap.size w) o1) o2⟩
end Go.Proofs.Ytiilljmhddjmeaa.Q
