-- Out of the print's words, by prune.py (a program of this session): what is not used is struck. Lean checks it.
import Derived.Test.YtnecmclnokikoaaWInv
import Derived.Test.YtnecmclnokikoaaWFootNe
namespace Go.Proofs.YtnecmclnokikoaaW.PrintWords
open Go.RowKit
end Go.Proofs.YtnecmclnokikoaaW.PrintWords
namespace Go.Proofs.YtnecmclnokikoaaW.PrintLast
section
variable {ops : Array Oper} {a : Act} {o og : Oper} {g : Nat} {t : Tmp} {u : Bool}
end
end Go.Proofs.YtnecmclnokikoaaW.PrintLast
