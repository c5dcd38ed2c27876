/- The plain statement of the law FnExactNodeOf: for all values of its parameters the plain function answers true. No condition but the bounds of Go's numbers and lengths. -/
import Derived.Test.YtfbhkglgaehohaaDoorPAx10
import Derived.Test.YtfbhkglgaehohaaDoorOpen
namespace Go.Proofs.YtfbhkglgaehohaaDoor.PureFnExactNodeOf
open Go.RowKit Go.Proofs.YtfbhkglgaehohaaDoor.PA
def Stated : Prop := ∀ (x0 : ByteArray) (x1 : ByteArray), (x0.size ≤ 9223372036854775807) → (x1.size ≤ 9223372036854775807) → ∃ k, laws_FnExactNodeOf.f k x0 x1 = some true
end Go.Proofs.YtfbhkglgaehohaaDoor.PureFnExactNodeOf
