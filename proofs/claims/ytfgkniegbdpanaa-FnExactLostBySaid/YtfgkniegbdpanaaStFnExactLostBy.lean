/- The plain statement of the law FnExactLostBy: for all values of its parameters the plain function answers true. No condition but the bounds of Go's numbers and lengths. -/
import Derived.Test.YtfgkniegbdpanaaPAx20
import Derived.Test.YtfgkniegbdpanaaOpen
namespace Go.Proofs.Ytfgkniegbdpanaa.PureFnExactLostBy
open Go.RowKit Go.Proofs.Ytfgkniegbdpanaa.PA
def ok23 (x : S23) : Prop := (Op.OkInt .i64 x.f0) ∧ (Op.OkInt .i64 x.f1) ∧ (Op.OkInt .i64 x.f2) ∧ (Op.OkInt .i64 x.f3)
def ok25 (x : S25) : Prop := (Op.OkInt .i64 x.f0) ∧ (Op.OkInt .i64 x.f1) ∧ (ok23 x.f2)
def Stated : Prop := ∀ (x0 : List S25) (x1 : Int), ((∀ e_ ∈ x0, ok25 e_) ∧ x0.length ≤ 9223372036854775807) → (Op.OkInt .i64 x1) → ∃ k, laws_FnExactLostBy.f k x0 x1 = some true
end Go.Proofs.Ytfgkniegbdpanaa.PureFnExactLostBy
