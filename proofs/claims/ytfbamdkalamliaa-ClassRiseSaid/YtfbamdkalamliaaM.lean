/- Facts of this program that every row's proof asks. -/
import Derived.Test.YtfbamdkalamliaaRows
import Derived.Test.YtfbamdkalamliaaL
namespace Go.Proofs.Ytfbamdkalamliaa
open Go.RowKit

theorem knob_none : ownKnob Try.prog.godebug = none := by kernel_rfl
theorem all_laid : laidOutB Try.prog = true := by kernel_rfl
end Go.Proofs.Ytfbamdkalamliaa
