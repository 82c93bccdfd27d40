/-
  No cell of these rows narrows 'for every input' (looked for: loops, veiled, ifaces, maps, wideKeys, modest, calm, conditions, laid).
  DERIVED. THE GIVEN ROWS OF THIS SEAT. 6 by the template 'for every input the law returns true; each argument reads behind the call as it read before'; 0 by the template 'total and deterministic' (their statements: YtidpnehbmjfdlaaTotals.lean).
  GIVEN WITH THE SEED: the statements are not yours to turn. If you find one false, say at which input.
  Laid BY PROGRAM, IN A SANDBOX (cutbox-rows.mjs): the forced cells as the released guide's own fill.sh prints them over the translation 84db9630ead68192… (all of the seat's roots in one cut). By AI agents, Wed Nov 11 2026. No macro, syntax, notation, axiom, sorry.
-/
import Derived.Test.YtidpnehbmjfdlaaChecked
import GoSem.Claim
import GoSem.ClaimJoined
import GoSem.ClaimMapViews
import Derived.JoinedTies
import Derived.KernelRfl
namespace Go.Proofs.Ytidpnehbmjfdlaa
/- THE CELL 'sum', in the pinned program and in every row, IS THE sha256 OF THE DUMP (.gsa) THAT YtidpnehbmjfdlaaProg.lean LOADS. Nothing in Lean hashes anything: it is a label: what it is worth is what the hold of that sum in a sandbox is worth. -/
noncomputable def Try.pinned : Pinned := { name := "ytidpnehbmjfdlaa", sum := "84db9630ead68192cdeda98e35e2c371a6d7ed9a0c3a878a21a5d5c574bfe066", checked := Try.checked }
namespace Rows
def none {H : Type} : Left H := { results := [], args := [] }

/-- 'tailwaterlaw31.MarksTells': WHATEVER THE INPUT: true; the input reads as it did. -/
def marksTellsSpec : ChangeSpec := { name := "marksTells", fn := fun _ => fun
  | [d1, d2] => { results := [.lit (.bool true)], args := [d1, d2] }
  | _ => none }
def marksTellsRow : OpenClaim := { program := "ytidpnehbmjfdlaa", sum := "84db9630ead68192cdeda98e35e2c371a6d7ed9a0c3a878a21a5d5c574bfe066", func := "tailwater/tailwaterlaw31.MarksTells", spec := "marksTells", apart := false }
def MarksTellsSaid : Prop := marksTellsRow.holds Try.pinned (OpenSpec.ofChange marksTellsSpec)

/-- ITS FALSE NEIGHBOUR: 'it returns false'. Refute it at one input. -/
def marksTellsWrong : ChangeSpec := { name := "marksTells", fn := fun _ => fun
  | [d1, d2] => { results := [.lit (.bool false)], args := [d1, d2] }
  | _ => none }
def MarksTellsWrongFalsely : Prop := marksTellsRow.holds Try.pinned (OpenSpec.ofChange marksTellsWrong)

/-- 'tailwaterlaw31.MarksNames': WHATEVER THE INPUT: true; the input reads as it did. -/
def marksNamesSpec : ChangeSpec := { name := "marksNames", fn := fun _ => fun
  | [] => { results := [.lit (.bool true)], args := [] }
  | _ => none }
def marksNamesRow : OpenClaim := { program := "ytidpnehbmjfdlaa", sum := "84db9630ead68192cdeda98e35e2c371a6d7ed9a0c3a878a21a5d5c574bfe066", func := "tailwater/tailwaterlaw31.MarksNames", spec := "marksNames", apart := false }
def MarksNamesSaid : Prop := marksNamesRow.holds Try.pinned (OpenSpec.ofChange marksNamesSpec)

/-- ITS FALSE NEIGHBOUR: 'it returns false'. Refute it at one input. -/
def marksNamesWrong : ChangeSpec := { name := "marksNames", fn := fun _ => fun
  | [] => { results := [.lit (.bool false)], args := [] }
  | _ => none }
def MarksNamesWrongFalsely : Prop := marksNamesRow.holds Try.pinned (OpenSpec.ofChange marksNamesWrong)

/-- 'tailwaterlaw31.MarksRaises': WHATEVER THE INPUT: true; the input reads as it did. -/
def marksRaisesSpec : ChangeSpec := { name := "marksRaises", fn := fun _ => fun
  | [d1, d2, d3] => { results := [.lit (.bool true)], args := [d1, d2, d3] }
  | _ => none }
def marksRaisesRow : OpenClaim := { program := "ytidpnehbmjfdlaa", sum := "84db9630ead68192cdeda98e35e2c371a6d7ed9a0c3a878a21a5d5c574bfe066", func := "tailwater/tailwaterlaw31.MarksRaises", spec := "marksRaises", apart := false }
def MarksRaisesSaid : Prop := marksRaisesRow.holds Try.pinned (OpenSpec.ofChange marksRaisesSpec)

/-- ITS FALSE NEIGHBOUR: 'it returns false'. Refute it at one input. -/
def marksRaisesWrong : ChangeSpec := { name := "marksRaises", fn := fun _ => fun
  | [d1, d2, d3] => { results := [.lit (.bool false)], args := [d1, d2, d3] }
  | _ => none }
def MarksRaisesWrongFalsely : Prop := marksRaisesRow.holds Try.pinned (OpenSpec.ofChange marksRaisesWrong)

/-- 'tailwaterlaw31.MarksBack': WHATEVER THE INPUT: true; the input reads as it did. -/
def marksBackSpec : ChangeSpec := { name := "marksBack", fn := fun _ => fun
  | [d1, d2, d3] => { results := [.lit (.bool true)], args := [d1, d2, d3] }
  | _ => none }
def marksBackRow : OpenClaim := { program := "ytidpnehbmjfdlaa", sum := "84db9630ead68192cdeda98e35e2c371a6d7ed9a0c3a878a21a5d5c574bfe066", func := "tailwater/tailwaterlaw31.MarksBack", spec := "marksBack", apart := false }
def MarksBackSaid : Prop := marksBackRow.holds Try.pinned (OpenSpec.ofChange marksBackSpec)

/-- ITS FALSE NEIGHBOUR: 'it returns false'. Refute it at one input. -/
def marksBackWrong : ChangeSpec := { name := "marksBack", fn := fun _ => fun
  | [d1, d2, d3] => { results := [.lit (.bool false)], args := [d1, d2, d3] }
  | _ => none }
def MarksBackWrongFalsely : Prop := marksBackRow.holds Try.pinned (OpenSpec.ofChange marksBackWrong)

/-- 'tailwaterlaw31.MarksOrder': WHATEVER THE INPUT: true; the input reads as it did. -/
def marksOrderSpec : ChangeSpec := { name := "marksOrder", fn := fun _ => fun
  | [d1, d2, d3, d4, d5] => { results := [.lit (.bool true)], args := [d1, d2, d3, d4, d5] }
  | _ => none }
def marksOrderRow : OpenClaim := { program := "ytidpnehbmjfdlaa", sum := "84db9630ead68192cdeda98e35e2c371a6d7ed9a0c3a878a21a5d5c574bfe066", func := "tailwater/tailwaterlaw31.MarksOrder", spec := "marksOrder", apart := false }
def MarksOrderSaid : Prop := marksOrderRow.holds Try.pinned (OpenSpec.ofChange marksOrderSpec)

/-- ITS FALSE NEIGHBOUR: 'it returns false'. Refute it at one input. -/
def marksOrderWrong : ChangeSpec := { name := "marksOrder", fn := fun _ => fun
  | [d1, d2, d3, d4, d5] => { results := [.lit (.bool false)], args := [d1, d2, d3, d4, d5] }
  | _ => none }
def MarksOrderWrongFalsely : Prop := marksOrderRow.holds Try.pinned (OpenSpec.ofChange marksOrderWrong)

/-- 'tailwaterlaw31.MarksEnds': WHATEVER THE INPUT: true; the input reads as it did. -/
def marksEndsSpec : ChangeSpec := { name := "marksEnds", fn := fun _ => fun
  | [d] => { results := [.lit (.bool true)], args := [d] }
  | _ => none }
def marksEndsRow : OpenClaim := { program := "ytidpnehbmjfdlaa", sum := "84db9630ead68192cdeda98e35e2c371a6d7ed9a0c3a878a21a5d5c574bfe066", func := "tailwater/tailwaterlaw31.MarksEnds", spec := "marksEnds", apart := false }
def MarksEndsSaid : Prop := marksEndsRow.holds Try.pinned (OpenSpec.ofChange marksEndsSpec)

/-- ITS FALSE NEIGHBOUR: 'it returns false'. Refute it at one input. -/
def marksEndsWrong : ChangeSpec := { name := "marksEnds", fn := fun _ => fun
  | [d] => { results := [.lit (.bool false)], args := [d] }
  | _ => none }
def MarksEndsWrongFalsely : Prop := marksEndsRow.holds Try.pinned (OpenSpec.ofChange marksEndsWrong)

/- THE SECOND FORM. 'bulk': how many values and letters a reading holds, each counted each time it is reached (what is shared counts as often as it is met; a slice's spare places count too). A statement '..UptoSaid' is the law's where the arguments, and the package variables that the reading takes, are together of bulk at most 1048576: NARROWER than '..Said'. Prove '..Said' where nothing that the law and all that it calls make is longer than what came in: it says more and counts as full. Else prove '..UptoSaid'. A law counts once. -/
mutual
def uptoBulk {H : Type} : DataW H → Nat
  | .lit (.string bytes) => bytes.length + 1
  | .lit _ => 1
  | .nil => 1
  | .ptr d => uptoBulk d + 1
  | .slice elems spare => uptoBulkAll elems + uptoBulkAll spare + 1
  | .agg parts => uptoBulkAll parts + 1
  | .iface _ d => uptoBulk d + 1
  | .map entries => uptoBulkEntries entries + 1
  | .held _ => 1
def uptoBulkAll {H : Type} : List (DataW H) → Nat
  | [] => 0
  | d :: r => uptoBulk d + uptoBulkAll r
def uptoBulkEntries {H : Type} : List (Lit × DataW H) → Nat
  | [] => 0
  | x :: r => uptoBulkEntry x + uptoBulkEntries r
def uptoBulkEntry {H : Type} : Lit × DataW H → Nat
  | (.string bytes, d) => bytes.length + uptoBulk d + 1
  | (_, d) => uptoBulk d + 1
 end
def uptoSmall : (H : Type) → List (DataW H) → Bool := fun _ ds => decide (uptoBulkAll ds ≤ 1048576)
def OpenSpec.upto (s : _root_.Go.ChangeSpec) : _root_.Go.OpenSpec := { _root_.Go.OpenSpec.ofChange s with cond := some uptoSmall }

/-- 'tailwaterlaw31.MarksTells', WHERE WHAT IT READS IS OF BULK AT MOST 1048576: true; the input reads as it did. -/
def marksTellsUptoRow : OpenClaim := { program := "ytidpnehbmjfdlaa", sum := "84db9630ead68192cdeda98e35e2c371a6d7ed9a0c3a878a21a5d5c574bfe066", func := "tailwater/tailwaterlaw31.MarksTells", spec := "marksTells", apart := false, narrowed := true }
def MarksTellsUptoSaid : Prop := marksTellsUptoRow.holds Try.pinned (OpenSpec.upto marksTellsSpec)

/-- 'tailwaterlaw31.MarksNames', WHERE WHAT IT READS IS OF BULK AT MOST 1048576: true; the input reads as it did. -/
def marksNamesUptoRow : OpenClaim := { program := "ytidpnehbmjfdlaa", sum := "84db9630ead68192cdeda98e35e2c371a6d7ed9a0c3a878a21a5d5c574bfe066", func := "tailwater/tailwaterlaw31.MarksNames", spec := "marksNames", apart := false, narrowed := true }
def MarksNamesUptoSaid : Prop := marksNamesUptoRow.holds Try.pinned (OpenSpec.upto marksNamesSpec)

/-- 'tailwaterlaw31.MarksRaises', WHERE WHAT IT READS IS OF BULK AT MOST 1048576: true; the input reads as it did. -/
def marksRaisesUptoRow : OpenClaim := { program := "ytidpnehbmjfdlaa", sum := "84db9630ead68192cdeda98e35e2c371a6d7ed9a0c3a878a21a5d5c574bfe066", func := "tailwater/tailwaterlaw31.MarksRaises", spec := "marksRaises", apart := false, narrowed := true }
def MarksRaisesUptoSaid : Prop := marksRaisesUptoRow.holds Try.pinned (OpenSpec.upto marksRaisesSpec)

/-- 'tailwaterlaw31.MarksBack', WHERE WHAT IT READS IS OF BULK AT MOST 1048576: true; the input reads as it did. -/
def marksBackUptoRow : OpenClaim := { program := "ytidpnehbmjfdlaa", sum := "84db9630ead68192cdeda98e35e2c371a6d7ed9a0c3a878a21a5d5c574bfe066", func := "tailwater/tailwaterlaw31.MarksBack", spec := "marksBack", apart := false, narrowed := true }
def MarksBackUptoSaid : Prop := marksBackUptoRow.holds Try.pinned (OpenSpec.upto marksBackSpec)

/-- 'tailwaterlaw31.MarksOrder', WHERE WHAT IT READS IS OF BULK AT MOST 1048576: true; the input reads as it did. -/
def marksOrderUptoRow : OpenClaim := { program := "ytidpnehbmjfdlaa", sum := "84db9630ead68192cdeda98e35e2c371a6d7ed9a0c3a878a21a5d5c574bfe066", func := "tailwater/tailwaterlaw31.MarksOrder", spec := "marksOrder", apart := false, narrowed := true }
def MarksOrderUptoSaid : Prop := marksOrderUptoRow.holds Try.pinned (OpenSpec.upto marksOrderSpec)

/-- 'tailwaterlaw31.MarksEnds', WHERE WHAT IT READS IS OF BULK AT MOST 1048576: true; the input reads as it did. -/
def marksEndsUptoRow : OpenClaim := { program := "ytidpnehbmjfdlaa", sum := "84db9630ead68192cdeda98e35e2c371a6d7ed9a0c3a878a21a5d5c574bfe066", func := "tailwater/tailwaterlaw31.MarksEnds", spec := "marksEnds", apart := false, narrowed := true }
def MarksEndsUptoSaid : Prop := marksEndsUptoRow.holds Try.pinned (OpenSpec.upto marksEndsSpec)

end Rows
end Go.Proofs.Ytidpnehbmjfdlaa
