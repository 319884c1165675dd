-- Out of the print's words, by prune.py (a program of this session): what is not used is struck. Lean checks it.
import Derived.Test.YtnecmclnokikoaaDoorCWWords
import Derived.Laws.StructEq
/-! ### 53. '==' of structs as_ one Bool -/
namespace Go.Proofs.YtnecmclnokikoaaDoorW.PrintWords
open Go.RowKit
section
variable {P : Program} {d : Nat} {xs ys : Array Value} {f : Field} {fs : List Field} {a b : Value} {r s : Bool} {w : World}
end
end Go.Proofs.YtnecmclnokikoaaDoorW.PrintWords
