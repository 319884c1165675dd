-- Printed by mkprint.py (a program of this session, over the kit's print). Lean checks it.
import Derived.Test.YtnecmclnokikoaaDoorProg
import Derived.Below
import Derived.Deep.Draws
import Derived.Deep.AppendLies
import Derived.Maps.AppendAt
import Derived.OwnWalk
import Derived.Laws.BytesArg
import Derived.Laws.MakeOwn
import Derived.Laws.OwnMore
import Derived.Deep.OwnRows
import Derived.Tactics
import Derived.Lib.ConvBytes
import Derived.Laws.Slices
import Derived.WalkKit
import Derived.KernelRfl
import Derived.RowKit3
import Derived.Deep.LoopGhost
import Derived.Deep.QuietTactic
import Derived.BigQuiet
import Derived.WideLaws
import Derived.Deep.DeepCutAuto
import Derived.Deep.CutBlock
import Derived.Deep.RegionHeld3
import Derived.Laws.Rows
import Derived.Lib.AppendStr
import Derived.ArgAppend
import Derived.Laws.IdiomCopy
import Derived.OrdersHeld
import Derived.Laws.BitsLemmas
import Derived.RowKit
import Derived.Test.YtnecmclnokikoaaDoorCWWords
import Derived.Test.YtnecmclnokikoaaDoorCWLast
import Derived.Test.YtnecmclnokikoaaDoorCWTab
import Derived.Test.YtnecmclnokikoaaDoorCWFour
import Derived.Test.YtnecmclnokikoaaDoorCWQPut
import Derived.Test.YtnecmclnokikoaaDoorCWApart
import Derived.Test.YtnecmclnokikoaaDoorCWArr
import Derived.Test.YtnecmclnokikoaaDoorCWZeros
import Derived.Test.YtnecmclnokikoaaDoorCWFoot
import Derived.Test.YtnecmclnokikoaaDoorCWKept
import Derived.Test.YtnecmclnokikoaaDoorCWShare
import Derived.Test.YtnecmclnokikoaaDoorCWN
import Derived.Test.YtnecmclnokikoaaDoorCWFootNe
import Derived.Test.YtnecmclnokikoaaDoorCWAt
import Derived.Test.YtnecmclnokikoaaDoorCWEqStruct
import Derived.Test.YtnecmclnokikoaaDoorCWRepsOne
import Derived.Test.YtnecmclnokikoaaDoorCWInv
import Derived.Test.YtnecmclnokikoaaDoorCWInvWords
import Derived.Test.YtnecmclnokikoaaDoorCWGuard
import Derived.Test.YtnecmclnokikoaaDoorCWNEv
import Derived.Test.YtnecmclnokikoaaDoorCWMore
namespace Go.Proofs.YtnecmclnokikoaaDoor.L
open Go.RowKit Go.Proofs.YtnecmclnokikoaaDoorW.PrintWords Go.Proofs.YtnecmclnokikoaaDoorW.PrintLast Go.Proofs.YtnecmclnokikoaaDoorW.PrintMore
attribute [local go_sem] max2_int min2_int max_two min_two max_three min_three max_four min_four   -- for this text's walks alone
set_option linter.unusedVariables false
set_option linter.unusedSimpArgs false



def errW : Option Int → Value
  | none => .nilIface
  | some c => .iface 0 (.int .i64 c)
theorem errW_none : errW none = .nilIface := rfl
theorem errW_some (c : Int) : errW (some c) = .iface 0 (.int .i64 c) := rfl

-- the values' own types

theorem u8_w (x : Int) : IntKind.u8.wrap x = x % 256 := by rfl
theorem u32_w (x : Int) : IntKind.u32.wrap x = x % 4294967296 := by rfl
end Go.Proofs.YtnecmclnokikoaaDoor.L
