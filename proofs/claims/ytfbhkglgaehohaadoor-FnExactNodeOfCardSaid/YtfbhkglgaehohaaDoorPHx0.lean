/- The functions of the program and of the reference that laws of this seat reach: each is shown to compute a plain Lean function; written by a program of this session. No condition. -/
import Derived.Test.YtfbhkglgaehohaaDoorProg
import Derived.Below
import Derived.Deep.Draws
import Derived.Deep.AppendLies
import Derived.Maps.AppendAt
import Derived.OwnWalk
import Derived.Laws.BytesArg
import Derived.Laws.MakeOwn
import Derived.Laws.OwnMore
import Derived.Deep.OwnRows
import Derived.Tactics
import Derived.Lib.ConvBytes
import Derived.Laws.Slices
import Derived.WalkKit
import Derived.KernelRfl
import Derived.RowKit3
import Derived.Deep.LoopGhost
import Derived.Deep.QuietTactic
import Derived.BigQuiet
import Derived.WideLaws
import Derived.Deep.DeepCutAuto
import Derived.Deep.CutBlock
import Derived.Deep.RegionHeld3
import Derived.Laws.Rows
import Derived.Lib.AppendStr
import Derived.ArgAppend
import Derived.Laws.IdiomCopy
import Derived.OrdersHeld
import Derived.Laws.BitsLemmas
import Derived.RowKit
import Derived.Test.YtfbhkglgaehohaaDoorWWords
import Derived.Test.YtfbhkglgaehohaaDoorWLast
import Derived.Test.YtfbhkglgaehohaaDoorWTab
import Derived.Test.YtfbhkglgaehohaaDoorWFour
import Derived.Test.YtfbhkglgaehohaaDoorWQPut
import Derived.Test.YtfbhkglgaehohaaDoorWApart
import Derived.Test.YtfbhkglgaehohaaDoorWArr
import Derived.Test.YtfbhkglgaehohaaDoorWZeros
import Derived.Test.YtfbhkglgaehohaaDoorWFoot
import Derived.Test.YtfbhkglgaehohaaDoorWKept
import Derived.Test.YtfbhkglgaehohaaDoorWShare
import Derived.Test.YtfbhkglgaehohaaDoorWN
import Derived.Test.YtfbhkglgaehohaaDoorWFootNe
import Derived.Test.YtfbhkglgaehohaaDoorWAt
import Derived.Test.YtfbhkglgaehohaaDoorWEqStruct
import Derived.Test.YtfbhkglgaehohaaDoorWRepsOne
import Derived.Test.YtfbhkglgaehohaaDoorWInv
import Derived.Test.YtfbhkglgaehohaaDoorWInvWords
import Derived.Test.YtfbhkglgaehohaaDoorWGuard
import Derived.Test.YtfbhkglgaehohaaDoorWNEv
import Derived.Test.YtfbhkglgaehohaaDoorWMore
namespace Go.Proofs.YtfbhkglgaehohaaDoor.PH
open Go.RowKit Go.Proofs.YtfbhkglgaehohaaDoorW.PrintWords Go.Proofs.YtfbhkglgaehohaaDoorW.PrintLast Go.Proofs.YtfbhkglgaehohaaDoorW.PrintMore
attribute [local go_sem] max2_int min2_int max_two min_two max_three min_three max_four min_four   -- for this text's walks alone
set_option linter.unusedVariables false
set_option linter.unusedSimpArgs false



def errW : Option Int → Value
  | none => .nilIface
  | some c => .iface 0 (.int .i64 c)
theorem errW_none : errW none = .nilIface := rfl
theorem errW_some (c : Int) : errW (some c) = .iface 0 (.int .i64 c) := rfl

theorem info3 : (Tryd.prog.info? 3).map (fun i => (i.zero, i.size, i.bytes)) = some (some (.int .i64 0), 1, 8) := by kernel_rfl
theorem info5 : (Tryd.prog.info? 5).map (fun i => (i.zero, i.size, i.bytes)) = some (some (.int .u8 0), 1, 1) := by kernel_rfl
-- the values' own types

end Go.Proofs.YtfbhkglgaehohaaDoor.PH
