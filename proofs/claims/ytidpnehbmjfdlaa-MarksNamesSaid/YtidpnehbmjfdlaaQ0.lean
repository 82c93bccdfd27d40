/- Functions of the program as plain Lean functions, each with a proof that the Go code computes just that; written by a turned copy of the kit's printer, not by hand. No condition but what each theorem names. -/
import Derived.Test.YtidpnehbmjfdlaaProg
import Derived.Test.YtidpnehbmjfdlaaArr
import Derived.Below
import Derived.Deep.Draws
import Derived.Deep.AppendLies
import Derived.Maps.AppendAt
import Derived.OwnWalk
import Derived.Laws.BytesArg
import Derived.Laws.MakeOwn
import Derived.Laws.OwnMore
import Derived.Deep.OwnRows
import Derived.Tactics
import Derived.Lib.ConvBytes
import Derived.Laws.Slices
import Derived.WalkKit
import Derived.KernelRfl
import Derived.RowKit3
import Derived.Deep.LoopGhost
import Derived.Deep.QuietTactic
import Derived.BigQuiet
import Derived.WideLaws
import Derived.Deep.DeepCutAuto
import Derived.Deep.CutBlock
import Derived.Deep.RegionHeld3
import Derived.Laws.Rows
import Derived.Lib.AppendStr
import Derived.ArgAppend
import Derived.Laws.IdiomCopy
import Derived.OrdersHeld
import Derived.Laws.BitsLemmas
import Derived.RowKit
import Derived.Test.YtidpnehbmjfdlaaWWords
import Derived.Test.YtidpnehbmjfdlaaWLast
import Derived.Test.YtidpnehbmjfdlaaWTab
import Derived.Test.YtidpnehbmjfdlaaWFour
import Derived.Test.YtidpnehbmjfdlaaWQPut
import Derived.Test.YtidpnehbmjfdlaaWApart
import Derived.Test.YtidpnehbmjfdlaaWArr
import Derived.Test.YtidpnehbmjfdlaaWZeros
import Derived.Test.YtidpnehbmjfdlaaWFoot
import Derived.Test.YtidpnehbmjfdlaaWKept
import Derived.Test.YtidpnehbmjfdlaaWShare
import Derived.Test.YtidpnehbmjfdlaaWN
import Derived.Test.YtidpnehbmjfdlaaWFootNe
import Derived.Test.YtidpnehbmjfdlaaWAt
import Derived.Test.YtidpnehbmjfdlaaWEqStruct
import Derived.Test.YtidpnehbmjfdlaaWRepsOne
import Derived.Test.YtidpnehbmjfdlaaWInv
import Derived.Test.YtidpnehbmjfdlaaWInvWords
import Derived.Test.YtidpnehbmjfdlaaWGuard
import Derived.Test.YtidpnehbmjfdlaaWNEv
import Derived.Test.YtidpnehbmjfdlaaWMore
namespace Go.Proofs.Ytidpnehbmjfdlaa.Q
open Go.RowKit Go.Proofs.YtidpnehbmjfdlaaW.PrintWords Go.Proofs.YtidpnehbmjfdlaaW.PrintLast Go.Proofs.YtidpnehbmjfdlaaW.PrintMore
attribute [local go_sem] max2_int min2_int max_two min_two max_three min_three max_four min_four   -- for this text's walks alone
set_option linter.unusedVariables false
set_option linter.unusedSimpArgs false



def errW : Option Int → Value
  | none => .nilIface
  | some c => .iface 0 (.int .i64 c)
theorem errW_none : errW none = .nilIface := rfl
theorem errW_some (c : Int) : errW (some c) = .iface 0 (.int .i64 c) := rfl

theorem info2 : (Try.prog.info? 2).map (fun i => (i.zero, i.size, i.bytes)) = some (some (.int .i64 0), 1, 8) := by kernel_rfl
-- the values' own types

end Go.Proofs.Ytidpnehbmjfdlaa.Q
