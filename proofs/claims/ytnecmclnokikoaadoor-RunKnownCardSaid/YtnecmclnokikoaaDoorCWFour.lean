-- Out of the print's words, by prune.py (a program of this session): what is not used is struck. Lean checks it.
import Derived.Test.YtnecmclnokikoaaDoorCWTab
/-! ### 56. Four, five, six operations that may come up next, in any order -/
namespace Go.Proofs.YtnecmclnokikoaaDoorW.PrintLast
section
variable {P : Program} {ops : Array Oper} {Q : Exit → Act → World → Prop} {md : Region.Mode} {S : World → Prop} {ds : List Nat} {T : Bool × List (List Nat × List Nat)}
end
end Go.Proofs.YtnecmclnokikoaaDoorW.PrintLast
