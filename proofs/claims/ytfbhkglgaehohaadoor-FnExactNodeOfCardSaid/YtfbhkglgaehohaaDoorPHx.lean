/- The functions of the program and of the reference that laws of this seat reach: each is shown to compute a plain Lean function; written by a program of this session. No condition. -/
import Derived.Test.YtfbhkglgaehohaaDoorPHx0
import Derived.Test.YtfbhkglgaehohaaDoorPHx1
import Derived.Test.YtfbhkglgaehohaaDoorPHx2
import Derived.Test.YtfbhkglgaehohaaDoorPHx3
import Derived.Test.YtfbhkglgaehohaaDoorPHx4
import Derived.Test.YtfbhkglgaehohaaDoorPHx5
import Derived.Test.YtfbhkglgaehohaaDoorPHx6
import Derived.Test.YtfbhkglgaehohaaDoorPHx7
import Derived.Test.YtfbhkglgaehohaaDoorPHx8
import Derived.Test.YtfbhkglgaehohaaDoorPHx9
import Derived.Test.YtfbhkglgaehohaaDoorPHx10
namespace Go.Proofs.YtfbhkglgaehohaaDoor.PH
open Go.RowKit Go.Proofs.YtfbhkglgaehohaaDoorW.PrintWords Go.Proofs.YtfbhkglgaehohaaDoorW.PrintLast Go.Proofs.YtfbhkglgaehohaaDoorW.PrintMore
attribute [local go_sem] max2_int min2_int max_two min_two max_three min_three max_four min_four   -- for this text's walks alone
set_option linter.unusedVariables false
set_option linter.unusedSimpArgs false

end Go.Proofs.YtfbhkglgaehohaaDoor.PH
