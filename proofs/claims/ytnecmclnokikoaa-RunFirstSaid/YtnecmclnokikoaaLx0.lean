-- Printed by mkprint.py (a program of this session, over the kit's print). Lean checks it.
import Derived.Test.YtnecmclnokikoaaProg
import Derived.Below
import Derived.Deep.Draws
import Derived.Deep.AppendLies
import Derived.Maps.AppendAt
import Derived.OwnWalk
import Derived.Laws.BytesArg
import Derived.Laws.MakeOwn
import Derived.Laws.OwnMore
import Derived.Deep.OwnRows
import Derived.Tactics
import Derived.Lib.ConvBytes
import Derived.Laws.Slices
import Derived.WalkKit
import Derived.KernelRfl
import Derived.RowKit3
import Derived.Deep.LoopGhost
import Derived.Deep.QuietTactic
import Derived.BigQuiet
import Derived.WideLaws
import Derived.Deep.DeepCutAuto
import Derived.Deep.CutBlock
import Derived.Deep.RegionHeld3
import Derived.Laws.Rows
import Derived.Lib.AppendStr
import Derived.ArgAppend
import Derived.Laws.IdiomCopy
import Derived.OrdersHeld
import Derived.Laws.BitsLemmas
import Derived.RowKit
import Derived.Test.YtnecmclnokikoaaWWords
import Derived.Test.YtnecmclnokikoaaWLast
import Derived.Test.YtnecmclnokikoaaWTab
import Derived.Test.YtnecmclnokikoaaWFour
import Derived.Test.YtnecmclnokikoaaWQPut
import Derived.Test.YtnecmclnokikoaaWApart
import Derived.Test.YtnecmclnokikoaaWArr
import Derived.Test.YtnecmclnokikoaaWZeros
import Derived.Test.YtnecmclnokikoaaWFoot
import Derived.Test.YtnecmclnokikoaaWKept
import Derived.Test.YtnecmclnokikoaaWShare
import Derived.Test.YtnecmclnokikoaaWN
import Derived.Test.YtnecmclnokikoaaWFootNe
import Derived.Test.YtnecmclnokikoaaWAt
import Derived.Test.YtnecmclnokikoaaWEqStruct
import Derived.Test.YtnecmclnokikoaaWRepsOne
import Derived.Test.YtnecmclnokikoaaWInv
import Derived.Test.YtnecmclnokikoaaWInvWords
import Derived.Test.YtnecmclnokikoaaWGuard
import Derived.Test.YtnecmclnokikoaaWNEv
import Derived.Test.YtnecmclnokikoaaWMore
namespace Go.Proofs.Ytnecmclnokikoaa.L
open Go.RowKit Go.Proofs.YtnecmclnokikoaaW.PrintWords Go.Proofs.YtnecmclnokikoaaW.PrintLast Go.Proofs.YtnecmclnokikoaaW.PrintMore
attribute [local go_sem] max2_int min2_int max_two min_two max_three min_three max_four min_four   -- for this text's walks alone
set_option linter.unusedVariables false
set_option linter.unusedSimpArgs false



def errW : Option Int → Value
  | none => .nilIface
  | some c => .iface 0 (.int .i64 c)
theorem errW_none : errW none = .nilIface := rfl
theorem errW_some (c : Int) : errW (some c) = .iface 0 (.int .i64 c) := rfl

-- the values' own types

theorem u8_w (x : Int) : IntKind.u8.wrap x = x % 256 := by rfl
theorem u32_w (x : Int) : IntKind.u32.wrap x = x % 4294967296 := by rfl
end Go.Proofs.Ytnecmclnokikoaa.L
