-- Out of the print's words, by prune.py (a program of this session): what is not used is struck. Lean checks it.
import Derived.Test.YtnecmclnokikoaaDoorCWInv
import Derived.Test.YtnecmclnokikoaaDoorCWFootNe
namespace Go.Proofs.YtnecmclnokikoaaDoorW.PrintWords
open Go.RowKit
end Go.Proofs.YtnecmclnokikoaaDoorW.PrintWords
namespace Go.Proofs.YtnecmclnokikoaaDoorW.PrintLast
section
variable {ops : Array Oper} {a : Act} {o og : Oper} {g : Nat} {t : Tmp} {u : Bool}
end
end Go.Proofs.YtnecmclnokikoaaDoorW.PrintLast
