-- Out of the print's words, by prune.py (a program of this session): what is not used is struck. Lean checks it.
import Derived.Test.YtcchfblekaaalaaDoorWInv
import Derived.Test.YtcchfblekaaalaaDoorWFootNe
namespace Go.Proofs.YtcchfblekaaalaaDoorW.PrintWords
open Go.RowKit
end Go.Proofs.YtcchfblekaaalaaDoorW.PrintWords
namespace Go.Proofs.YtcchfblekaaalaaDoorW.PrintLast
section
variable {ops : Array Oper} {a : Act} {o og : Oper} {g : Nat} {t : Tmp} {u : Bool}
end
end Go.Proofs.YtcchfblekaaalaaDoorW.PrintLast
