/- The chapter's example holds: it takes no input, so Lean computes what it answers. No condition. -/
import Derived.Test.YtiilljmhddjmeaaF22
import Derived.Test.YtiilljmhddjmeaaQ0
namespace Go.Proofs.Ytiilljmhddjmeaa.Q
open Go.RowKit Go.Proofs.YtiilljmhddjmeaaW.PrintWords Go.Proofs.YtiilljmhddjmeaaW.PrintLast
set_option linter.unusedVariables false
theorem alive_ev : Ev (fun k => tailwaterlaw26_alive.f k) true := Ev.of tailwaterlaw26_alive.mono (k := 40) (by decide +kernel)
theorem tailwaterlaw26_alive.calls (k : Nat) (r : Bool) (w : World) (h : tailwaterlaw26_alive.f k = some r) :
    Calls Try.prog 22 #[] w fun e w' => e = .returned (.bool r) ∧ Below w.heap.size w w' := by
  obtain ⟨K, hK⟩ := alive_ev
  have h2 := at_rounds tailwaterlaw26_alive.mono (Nat.le_add_right k K) h
  have h3 := hK (k + K) (Nat.le_add_left K k)
  obtain rfl : r = true := Option.some.inj (h2.symm.trans h3)
  exact tailwaterlaw26_alive.callsT k w h
end Go.Proofs.Ytiilljmhddjmeaa.Q
