-- Out of the print's words, by prune.py (a program of this session): what is not used is struck. Lean checks it.
import Derived.Test.YtkkmgahgejjhgaaDoorCWInv
import Derived.Test.YtkkmgahgejjhgaaDoorCWFootNe
namespace Go.Proofs.YtkkmgahgejjhgaaDoorW.PrintWords
open Go.RowKit
end Go.Proofs.YtkkmgahgejjhgaaDoorW.PrintWords
namespace Go.Proofs.YtkkmgahgejjhgaaDoorW.PrintLast
section
variable {ops : Array Oper} {a : Act} {o og : Oper} {g : Nat} {t : Tmp} {u : Bool}
end
end Go.Proofs.YtkkmgahgejjhgaaDoorW.PrintLast
