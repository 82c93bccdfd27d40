/-
  No cell of these rows narrows 'for every input' (looked for: loops, veiled, ifaces, maps, wideKeys, modest, calm, conditions, laid).
  DERIVED. THE GIVEN ROWS OF THIS SEAT. 6 by the template 'for every input the law returns true; each argument reads behind the call as it read before'; 0 by the template 'total and deterministic' (their statements: YtiilljmhddjmeaaTotals.lean).
  GIVEN WITH THE SEED: the statements are not yours to turn. If you find one false, say at which input.
  Laid BY PROGRAM, IN A SANDBOX (cutbox-rows.mjs): the forced cells as the released guide's own fill.sh prints them over the translation 56434fe9cff24f21… (all of the seat's roots in one cut). By AI agents, Wed Nov 11 2026. No macro, syntax, notation, axiom, sorry.
-/
import Derived.Test.YtiilljmhddjmeaaChecked
import GoSem.Claim
import GoSem.ClaimJoined
import GoSem.ClaimMapViews
import Derived.JoinedTies
import Derived.KernelRfl
namespace Go.Proofs.Ytiilljmhddjmeaa
/- THE CELL 'sum', in the pinned program and in every row, IS THE sha256 OF THE DUMP (.gsa) THAT YtiilljmhddjmeaaProg.lean LOADS. Nothing in Lean hashes anything: it is a label: what it is worth is what the hold of that sum in a sandbox is worth. -/
noncomputable def Try.pinned : Pinned := { name := "ytiilljmhddjmeaa", sum := "56434fe9cff24f214333a8691fb235890a8587c2b1cf4bc15190ba71bdecf329", checked := Try.checked }
namespace Rows
def none {H : Type} : Left H := { results := [], args := [] }

/-- 'tailwaterlaw26.ChannelTakes': WHATEVER THE INPUT: true; the input reads as it did. -/
def channelTakesSpec : ChangeSpec := { name := "channelTakes", fn := fun _ => fun
  | [d] => { results := [.lit (.bool true)], args := [d] }
  | _ => none }
def channelTakesRow : OpenClaim := { program := "ytiilljmhddjmeaa", sum := "56434fe9cff24f214333a8691fb235890a8587c2b1cf4bc15190ba71bdecf329", func := "tailwater/tailwaterlaw26.ChannelTakes", spec := "channelTakes", apart := false }
def ChannelTakesSaid : Prop := channelTakesRow.holds Try.pinned (OpenSpec.ofChange channelTakesSpec)

/-- ITS FALSE NEIGHBOUR: 'it returns false'. Refute it at one input. -/
def channelTakesWrong : ChangeSpec := { name := "channelTakes", fn := fun _ => fun
  | [d] => { results := [.lit (.bool false)], args := [d] }
  | _ => none }
def ChannelTakesWrongFalsely : Prop := channelTakesRow.holds Try.pinned (OpenSpec.ofChange channelTakesWrong)

/-- 'tailwaterlaw26.ChannelPuts': WHATEVER THE INPUT: true; the input reads as it did. -/
def channelPutsSpec : ChangeSpec := { name := "channelPuts", fn := fun _ => fun
  | [d1, d2, d3] => { results := [.lit (.bool true)], args := [d1, d2, d3] }
  | _ => none }
def channelPutsRow : OpenClaim := { program := "ytiilljmhddjmeaa", sum := "56434fe9cff24f214333a8691fb235890a8587c2b1cf4bc15190ba71bdecf329", func := "tailwater/tailwaterlaw26.ChannelPuts", spec := "channelPuts", apart := false }
def ChannelPutsSaid : Prop := channelPutsRow.holds Try.pinned (OpenSpec.ofChange channelPutsSpec)

/-- ITS FALSE NEIGHBOUR: 'it returns false'. Refute it at one input. -/
def channelPutsWrong : ChangeSpec := { name := "channelPuts", fn := fun _ => fun
  | [d1, d2, d3] => { results := [.lit (.bool false)], args := [d1, d2, d3] }
  | _ => none }
def ChannelPutsWrongFalsely : Prop := channelPutsRow.holds Try.pinned (OpenSpec.ofChange channelPutsWrong)

/-- 'tailwaterlaw26.ChannelFirst': WHATEVER THE INPUT: true; the input reads as it did. -/
def channelFirstSpec : ChangeSpec := { name := "channelFirst", fn := fun _ => fun
  | [d1, d2, d3] => { results := [.lit (.bool true)], args := [d1, d2, d3] }
  | _ => none }
def channelFirstRow : OpenClaim := { program := "ytiilljmhddjmeaa", sum := "56434fe9cff24f214333a8691fb235890a8587c2b1cf4bc15190ba71bdecf329", func := "tailwater/tailwaterlaw26.ChannelFirst", spec := "channelFirst", apart := false }
def ChannelFirstSaid : Prop := channelFirstRow.holds Try.pinned (OpenSpec.ofChange channelFirstSpec)

/-- ITS FALSE NEIGHBOUR: 'it returns false'. Refute it at one input. -/
def channelFirstWrong : ChangeSpec := { name := "channelFirst", fn := fun _ => fun
  | [d1, d2, d3] => { results := [.lit (.bool false)], args := [d1, d2, d3] }
  | _ => none }
def ChannelFirstWrongFalsely : Prop := channelFirstRow.holds Try.pinned (OpenSpec.ofChange channelFirstWrong)

/-- 'tailwaterlaw26.ChannelNames': WHATEVER THE INPUT: true; the input reads as it did. -/
def channelNamesSpec : ChangeSpec := { name := "channelNames", fn := fun _ => fun
  | [] => { results := [.lit (.bool true)], args := [] }
  | _ => none }
def channelNamesRow : OpenClaim := { program := "ytiilljmhddjmeaa", sum := "56434fe9cff24f214333a8691fb235890a8587c2b1cf4bc15190ba71bdecf329", func := "tailwater/tailwaterlaw26.ChannelNames", spec := "channelNames", apart := false }
def ChannelNamesSaid : Prop := channelNamesRow.holds Try.pinned (OpenSpec.ofChange channelNamesSpec)

/-- ITS FALSE NEIGHBOUR: 'it returns false'. Refute it at one input. -/
def channelNamesWrong : ChangeSpec := { name := "channelNames", fn := fun _ => fun
  | [] => { results := [.lit (.bool false)], args := [] }
  | _ => none }
def ChannelNamesWrongFalsely : Prop := channelNamesRow.holds Try.pinned (OpenSpec.ofChange channelNamesWrong)

/-- 'tailwaterlaw26.ChannelOnce': WHATEVER THE INPUT: true; the input reads as it did. -/
def channelOnceSpec : ChangeSpec := { name := "channelOnce", fn := fun _ => fun
  | [d1, d2] => { results := [.lit (.bool true)], args := [d1, d2] }
  | _ => none }
def channelOnceRow : OpenClaim := { program := "ytiilljmhddjmeaa", sum := "56434fe9cff24f214333a8691fb235890a8587c2b1cf4bc15190ba71bdecf329", func := "tailwater/tailwaterlaw26.ChannelOnce", spec := "channelOnce", apart := false }
def ChannelOnceSaid : Prop := channelOnceRow.holds Try.pinned (OpenSpec.ofChange channelOnceSpec)

/-- ITS FALSE NEIGHBOUR: 'it returns false'. Refute it at one input. -/
def channelOnceWrong : ChangeSpec := { name := "channelOnce", fn := fun _ => fun
  | [d1, d2] => { results := [.lit (.bool false)], args := [d1, d2] }
  | _ => none }
def ChannelOnceWrongFalsely : Prop := channelOnceRow.holds Try.pinned (OpenSpec.ofChange channelOnceWrong)

/-- 'tailwaterlaw26.ChannelLeft': WHATEVER THE INPUT: true; the input reads as it did. -/
def channelLeftSpec : ChangeSpec := { name := "channelLeft", fn := fun _ => fun
  | [d1, d2] => { results := [.lit (.bool true)], args := [d1, d2] }
  | _ => none }
def channelLeftRow : OpenClaim := { program := "ytiilljmhddjmeaa", sum := "56434fe9cff24f214333a8691fb235890a8587c2b1cf4bc15190ba71bdecf329", func := "tailwater/tailwaterlaw26.ChannelLeft", spec := "channelLeft", apart := false }
def ChannelLeftSaid : Prop := channelLeftRow.holds Try.pinned (OpenSpec.ofChange channelLeftSpec)

/-- ITS FALSE NEIGHBOUR: 'it returns false'. Refute it at one input. -/
def channelLeftWrong : ChangeSpec := { name := "channelLeft", fn := fun _ => fun
  | [d1, d2] => { results := [.lit (.bool false)], args := [d1, d2] }
  | _ => none }
def ChannelLeftWrongFalsely : Prop := channelLeftRow.holds Try.pinned (OpenSpec.ofChange channelLeftWrong)

/- THE SECOND FORM. 'bulk': how many values and letters a reading holds, each counted each time it is reached (what is shared counts as often as it is met; a slice's spare places count too). A statement '..UptoSaid' is the law's where the arguments, and the package variables that the reading takes, are together of bulk at most 1048576: NARROWER than '..Said'. Prove '..Said' where nothing that the law and all that it calls make is longer than what came in: it says more and counts as full. Else prove '..UptoSaid'. A law counts once. -/
mutual
def uptoBulk {H : Type} : DataW H → Nat
  | .lit (.string bytes) => bytes.length + 1
  | .lit _ => 1
  | .nil => 1
  | .ptr d => uptoBulk d + 1
  | .slice elems spare => uptoBulkAll elems + uptoBulkAll spare + 1
  | .agg parts => uptoBulkAll parts + 1
  | .iface _ d => uptoBulk d + 1
  | .map entries => uptoBulkEntries entries + 1
  | .held _ => 1
def uptoBulkAll {H : Type} : List (DataW H) → Nat
  | [] => 0
  | d :: r => uptoBulk d + uptoBulkAll r
def uptoBulkEntries {H : Type} : List (Lit × DataW H) → Nat
  | [] => 0
  | x :: r => uptoBulkEntry x + uptoBulkEntries r
def uptoBulkEntry {H : Type} : Lit × DataW H → Nat
  | (.string bytes, d) => bytes.length + uptoBulk d + 1
  | (_, d) => uptoBulk d + 1
 end
def uptoSmall : (H : Type) → List (DataW H) → Bool := fun _ ds => decide (uptoBulkAll ds ≤ 1048576)
def OpenSpec.upto (s : _root_.Go.ChangeSpec) : _root_.Go.OpenSpec := { _root_.Go.OpenSpec.ofChange s with cond := some uptoSmall }

/-- 'tailwaterlaw26.ChannelTakes', WHERE WHAT IT READS IS OF BULK AT MOST 1048576: true; the input reads as it did. -/
def channelTakesUptoRow : OpenClaim := { program := "ytiilljmhddjmeaa", sum := "56434fe9cff24f214333a8691fb235890a8587c2b1cf4bc15190ba71bdecf329", func := "tailwater/tailwaterlaw26.ChannelTakes", spec := "channelTakes", apart := false, narrowed := true }
def ChannelTakesUptoSaid : Prop := channelTakesUptoRow.holds Try.pinned (OpenSpec.upto channelTakesSpec)

/-- 'tailwaterlaw26.ChannelPuts', WHERE WHAT IT READS IS OF BULK AT MOST 1048576: true; the input reads as it did. -/
def channelPutsUptoRow : OpenClaim := { program := "ytiilljmhddjmeaa", sum := "56434fe9cff24f214333a8691fb235890a8587c2b1cf4bc15190ba71bdecf329", func := "tailwater/tailwaterlaw26.ChannelPuts", spec := "channelPuts", apart := false, narrowed := true }
def ChannelPutsUptoSaid : Prop := channelPutsUptoRow.holds Try.pinned (OpenSpec.upto channelPutsSpec)

/-- 'tailwaterlaw26.ChannelFirst', WHERE WHAT IT READS IS OF BULK AT MOST 1048576: true; the input reads as it did. -/
def channelFirstUptoRow : OpenClaim := { program := "ytiilljmhddjmeaa", sum := "56434fe9cff24f214333a8691fb235890a8587c2b1cf4bc15190ba71bdecf329", func := "tailwater/tailwaterlaw26.ChannelFirst", spec := "channelFirst", apart := false, narrowed := true }
def ChannelFirstUptoSaid : Prop := channelFirstUptoRow.holds Try.pinned (OpenSpec.upto channelFirstSpec)

/-- 'tailwaterlaw26.ChannelNames', WHERE WHAT IT READS IS OF BULK AT MOST 1048576: true; the input reads as it did. -/
def channelNamesUptoRow : OpenClaim := { program := "ytiilljmhddjmeaa", sum := "56434fe9cff24f214333a8691fb235890a8587c2b1cf4bc15190ba71bdecf329", func := "tailwater/tailwaterlaw26.ChannelNames", spec := "channelNames", apart := false, narrowed := true }
def ChannelNamesUptoSaid : Prop := channelNamesUptoRow.holds Try.pinned (OpenSpec.upto channelNamesSpec)

/-- 'tailwaterlaw26.ChannelOnce', WHERE WHAT IT READS IS OF BULK AT MOST 1048576: true; the input reads as it did. -/
def channelOnceUptoRow : OpenClaim := { program := "ytiilljmhddjmeaa", sum := "56434fe9cff24f214333a8691fb235890a8587c2b1cf4bc15190ba71bdecf329", func := "tailwater/tailwaterlaw26.ChannelOnce", spec := "channelOnce", apart := false, narrowed := true }
def ChannelOnceUptoSaid : Prop := channelOnceUptoRow.holds Try.pinned (OpenSpec.upto channelOnceSpec)

/-- 'tailwaterlaw26.ChannelLeft', WHERE WHAT IT READS IS OF BULK AT MOST 1048576: true; the input reads as it did. -/
def channelLeftUptoRow : OpenClaim := { program := "ytiilljmhddjmeaa", sum := "56434fe9cff24f214333a8691fb235890a8587c2b1cf4bc15190ba71bdecf329", func := "tailwater/tailwaterlaw26.ChannelLeft", spec := "channelLeft", apart := false, narrowed := true }
def ChannelLeftUptoSaid : Prop := channelLeftUptoRow.holds Try.pinned (OpenSpec.upto channelLeftSpec)

end Rows
end Go.Proofs.Ytiilljmhddjmeaa
