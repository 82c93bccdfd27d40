/- The printed function of LateNames answers true: it takes no input, so Lean computes it. No condition. -/
import Derived.Test.YtdmaedaobjcocaaQ7
namespace Go.Proofs.Ytdmaedaobjcocaa.Pure
open Go.RowKit Go.Proofs.Ytdmaedaobjcocaa.Q Go.Proofs.YtdmaedaobjcocaaW.PrintWords Go.Proofs.YtdmaedaobjcocaaW.PrintLast
theorem LateNames : tailwaterlaw20_LateNames.Pure := ⟨100, by decide +kernel⟩
end Go.Proofs.Ytdmaedaobjcocaa.Pure
