-- Printed by mkprint.py (a program of this session, over the kit's print). Lean checks it.
import Derived.Test.YtleepjnpnbkgdaaProg
import Derived.Below
import Derived.Deep.Draws
import Derived.Deep.AppendLies
import Derived.Maps.AppendAt
import Derived.OwnWalk
import Derived.Laws.BytesArg
import Derived.Laws.MakeOwn
import Derived.Laws.OwnMore
import Derived.Deep.OwnRows
import Derived.Tactics
import Derived.Lib.ConvBytes
import Derived.Laws.Slices
import Derived.WalkKit
import Derived.KernelRfl
import Derived.RowKit3
import Derived.Deep.LoopGhost
import Derived.Deep.QuietTactic
import Derived.BigQuiet
import Derived.WideLaws
import Derived.Deep.DeepCutAuto
import Derived.Deep.CutBlock
import Derived.Deep.RegionHeld3
import Derived.Laws.Rows
import Derived.Lib.AppendStr
import Derived.ArgAppend
import Derived.Laws.IdiomCopy
import Derived.OrdersHeld
import Derived.Laws.BitsLemmas
import Derived.RowKit
import Derived.Test.YtleepjnpnbkgdaaWWords
import Derived.Test.YtleepjnpnbkgdaaWLast
import Derived.Test.YtleepjnpnbkgdaaWTab
import Derived.Test.YtleepjnpnbkgdaaWFour
import Derived.Test.YtleepjnpnbkgdaaWQPut
import Derived.Test.YtleepjnpnbkgdaaWApart
import Derived.Test.YtleepjnpnbkgdaaWArr
import Derived.Test.YtleepjnpnbkgdaaWZeros
import Derived.Test.YtleepjnpnbkgdaaWFoot
import Derived.Test.YtleepjnpnbkgdaaWKept
import Derived.Test.YtleepjnpnbkgdaaWShare
import Derived.Test.YtleepjnpnbkgdaaWN
import Derived.Test.YtleepjnpnbkgdaaWFootNe
import Derived.Test.YtleepjnpnbkgdaaWAt
import Derived.Test.YtleepjnpnbkgdaaWEqStruct
import Derived.Test.YtleepjnpnbkgdaaWRepsOne
import Derived.Test.YtleepjnpnbkgdaaWInv
import Derived.Test.YtleepjnpnbkgdaaWInvWords
import Derived.Test.YtleepjnpnbkgdaaWGuard
import Derived.Test.YtleepjnpnbkgdaaWNEv
import Derived.Test.YtleepjnpnbkgdaaWMore
namespace Go.Proofs.Ytleepjnpnbkgdaa.L
open Go.RowKit Go.Proofs.YtleepjnpnbkgdaaW.PrintWords Go.Proofs.YtleepjnpnbkgdaaW.PrintLast Go.Proofs.YtleepjnpnbkgdaaW.PrintMore
attribute [local go_sem] max2_int min2_int max_two min_two max_three min_three max_four min_four   -- for this text's walks alone
set_option linter.unusedVariables false
set_option linter.unusedSimpArgs false



def errW : Option Int → Value
  | none => .nilIface
  | some c => .iface 0 (.int .i64 c)
theorem errW_none : errW none = .nilIface := rfl
theorem errW_some (c : Int) : errW (some c) = .iface 0 (.int .i64 c) := rfl

-- the values' own types

theorem u8_w (x : Int) : IntKind.u8.wrap x = x % 256 := by rfl
theorem u32_w (x : Int) : IntKind.u32.wrap x = x % 4294967296 := by rfl
end Go.Proofs.Ytleepjnpnbkgdaa.L
