/- The plain statement of the law FnExactListing: for all values of its parameters the plain function answers true. No condition but the bounds of Go's numbers and lengths. -/
import Derived.Test.YtdedmdgegcnnpaaPAx41
import Derived.Test.YtdedmdgegcnnpaaOpen
namespace Go.Proofs.Ytdedmdgegcnnpaa.PureFnExactListing
open Go.RowKit Go.Proofs.Ytdedmdgegcnnpaa.PA
def ok72 (x : S72) : Prop := (Op.OkInt .i64 x.f0) ∧ (Op.OkInt .i64 x.f1) ∧ (Op.OkInt .i64 x.f2) ∧ (Op.OkInt .i64 x.f3)
def Stated : Prop := ∀ (x0 : List S72), ((∀ e_ ∈ x0, ok72 e_) ∧ x0.length ≤ 9223372036854775807) → ∃ k, laws_FnExactListing.f k x0 = some true
end Go.Proofs.Ytdedmdgegcnnpaa.PureFnExactListing
