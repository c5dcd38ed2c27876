/- The plain statement of the law FnExactShowEntry: for all values of its parameters the plain function answers true. No condition but the bounds of Go's numbers and lengths. -/
import Derived.Test.YtfgkniegbdpanaaPAx9
import Derived.Test.YtfgkniegbdpanaaOpen
namespace Go.Proofs.Ytfgkniegbdpanaa.PureFnExactShowEntry
open Go.RowKit Go.Proofs.Ytfgkniegbdpanaa.PA
def ok23 (x : S23) : Prop := (Op.OkInt .i64 x.f0) ∧ (Op.OkInt .i64 x.f1) ∧ (Op.OkInt .i64 x.f2) ∧ (Op.OkInt .i64 x.f3)
def ok25 (x : S25) : Prop := (Op.OkInt .i64 x.f0) ∧ (Op.OkInt .i64 x.f1) ∧ (ok23 x.f2)
def Stated : Prop := ∀ (x0 : S25), (ok25 x0) → ∃ k, laws_FnExactShowEntry.f k x0.f0 x0.f1 x0.f2.f0 x0.f2.f1 x0.f2.f2 x0.f2.f3 = some true
end Go.Proofs.Ytfgkniegbdpanaa.PureFnExactShowEntry
